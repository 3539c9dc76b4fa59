import PyProof.Rows.All
import Wide.All
import OpenK.AllK
import Wide.FinOn
import KE.DataEq
import KE.LtData
import HandS.ForMost
import HandS.Flow
import HandS.TupAny
import HandS.TupMul
import HandS.IsInst
import KE.SortData
import HandS.Defaults
import HandS.TupSets
import HandS.Set
import HandS.SetFor
import KE.KeyNested
import HandS.Zip
import HandS.Iter
import HandS.Rev
import KE.GoesEnum
import HandS.TryOnly
import HandS.Style
import HandS.Codes
import HandS.Ends
import HandS.More
import HandS.Words
import HandS.WordsExc
import HandS.Head0
import HandS.Head1
import HandS.Head2
import HandS.HeadEnd
import HandS.HeadHook1
import HandS.HeadHook2
import KE.KStateDown
import KE.GoesZip
import PyProof.ListStr
import PySem.Challenge.RW_landpoints_k18_ways_between_two_points
set_option Elab.async false
set_option autoImplicit false
set_option linter.all false
/-! LPEv: a small pure interpreter for the part of Python that the program and its laws use. Data are PyData; the lists that a def
    changes are cells. It stops (bad) wherever the proof of its soundness would want more. -/
namespace LP
open PySem

abbrev D := PyData
/-- the cells of a running def: the lists that may change -/
abbrev Cs := List (List D)

inductive R (α : Type) where
  | ok (a : α)
  | exc (c : Nat) (as : List D)
  | bad

namespace R
variable {α β : Type}
@[inline] def bind (x : R α) (f : α → R β) : R β :=
  match x with
  | .ok a => f a
  | .exc c as => .exc c as
  | .bad => .bad
instance : Monad R where
  pure := R.ok
  bind := R.bind
@[simp] theorem ok_bind (a : α) (f : α → R β) : (R.ok a >>= f) = f a := rfl
@[simp] theorem pure_eq (a : α) : (pure a : R α) = R.ok a := rfl
@[simp] theorem bad_bind (f : α → R β) : ((R.bad : R α) >>= f) = R.bad := rfl
@[simp] theorem exc_bind (c : Nat) (as : List D) (f : α → R β) : ((R.exc c as : R α) >>= f) = R.exc c as := rfl
theorem bind_ok {x : R α} {f : α → R β} {b : β} (h : (x >>= f) = R.ok b) : ∃ a, x = R.ok a ∧ f a = R.ok b := by
  cases x with
  | ok a => exact ⟨a, rfl, h⟩
  | exc c as => cases h
  | bad => cases h
def ofO : Option α → R α
  | some a => .ok a
  | none => .bad
@[simp] theorem ofO_some (a : α) : ofO (some a) = R.ok a := rfl
@[simp] theorem ofO_none : ofO (none : Option α) = R.bad := rfl
theorem ofO_ok {o : Option α} {a : α} (h : ofO o = R.ok a) : o = some a := by
  cases o with
  | none => cases h
  | some b => cases h; rfl
/-- go on if the condition holds -/
def chk (c : Bool) : R Unit := if c then .ok () else .bad
@[simp] theorem chk_true : chk true = R.ok () := rfl
@[simp] theorem chk_false : chk false = R.bad := rfl
theorem chk_ok {c : Bool} {u : Unit} (h : chk c = R.ok u) : c = true := by
  cases c with
  | true => rfl
  | false => cases h
end R

inductive O1 where
  | len | tup | lst | all | any | sum | int | abs | neg | srt | sset | mn | mx | nt | isN | notN
  deriving DecidableEq
inductive O2 where
  | add | sub | mul | mod | fdiv | pow | eq | ne | lt | le | gt | ge | isin | notin | idx
  deriving DecidableEq
inductive Ty where
  | int | str | bool | list | tuple
  deriving DecidableEq
/-- a target: one name, several names -/
inductive Tg where
  | nm (i : Nat) | tp (is : List Nat)
  deriving DecidableEq

/-- expressions; nil and cons make rows of arguments; rng1 .. zip stand only where something is walked -/
inductive E where
  | lit (d : D) | gl (k : Nat) | var (i : Nat) | pk (i : Nat)
  | nil | cons (a r : E)
  | tup (r : E) | lst (r : E)
  | o1 (o : O1) (a : E) | o2 (o : O2) (a b : E)
  | and (a b : E) | or (a b : E) | ife (c a b : E)
  | isi (a : E) (ts : List Ty)
  | sl (a lo hi : E) | nob
  | chain (o p : O2) (a b c : E)
  | comp (tg : Tg) (src cond elt : E)
  | rng1 (a : E) | rng2 (a b : E) | enum (a : E) | zip (a b : E)
  | call (f : Nat) (refs : List Nat) (r : E)
  | callk (f : Nat) (perm : List Nat) (r : E)
  | callt (f : Nat) (a r : E)
  | rep (a b : E)

inductive S where
  | nop | seq (a b : S)
  | ret (e : E) | retc (i : Nat) | retN
  | asg (i : Nat) (e : E) | cel (i : Nat) (e : E)
  | par (is cels : List Nat) (r : E) | unp (is : List Nat) (e : E)
  | ifs (c : E) (a b : S)
  | fors (tg : Tg) (src : E) (body : S)
  | expr (e : E)
  | app (i : Nat) (e : E) | ext (i : Nat) (e : E) | setx (i : Nat) (ix e : E)
  | brk | cont
  | frz (i : Nat)

/-- a slot: not set, a value, a cell -/
inductive Sl where
  | un | v (d : D) | c (k : Nat)
abbrev Vs := List Sl

abbrev sz : Nat := 16777216
abbrev dep : Nat := 60

/-- a thing's truth -/
def tru : D → R Bool
  | .none => .ok false
  | .bool b => .ok b
  | .int i => .ok (i != 0)
  | .list xs => .ok (!xs.isEmpty)
  | .tuple xs => .ok (!xs.isEmpty)
  | _ => .bad

def signs (x : Str) : List D := x.cps.toList.map fun c => .str ⟨#[c]⟩
/-- what is walked -/
def seqOf : D → R (List D)
  | .list xs => .ok xs
  | .tuple xs => .ok xs
  | .str x => do .chk (decide (x.length ≤ sz)); .ok (signs x)
  | _ => .bad
/-- a list or a tuple -/
def itemsOf : D → R (List D)
  | .list xs => .ok xs
  | .tuple xs => .ok xs
  | _ => .bad
def asInt : D → R Int
  | .int i => .ok i
  | _ => .bad
def asBool : D → R Bool
  | .bool i => .ok i
  | _ => .bad
def allM {α β : Type} (f : α → R β) : List α → R (List β)
  | [] => .ok []
  | x :: xs => do let y ← f x; let ys ← allM f xs; .ok (y :: ys)

mutual
/-- x < y by Python, for data that are alike -/
def dlt : D → D → Bool
  | .bool a, .bool b => !a && b
  | .int a, .int b => decide (a < b)
  | .str a, .str b => decide (a.cps.toList < b.cps.toList)
  | .list xs, .list ys => dltAll xs ys
  | .tuple xs, .tuple ys => dltAll xs ys
  | _, _ => false
def dltAll : List D → List D → Bool
  | x :: xs, y :: ys => if PyData.eqv x y then dltAll xs ys else dlt x y
  | [], _ :: _ => true
  | _, [] => false
end
abbrev alk := PySem.W.alike
def allAlk : List D → Bool
  | [] => true
  | x :: xs => alk x x && xs.all (fun y => alk x y && alk y x) && allAlk xs
def isort : List D → List D
  | [] => []
  | x :: xs => insF x (isort xs)
where
  /-- put ahead of all that are not less (x stood ahead) -/
  insF (x : D) : List D → List D
    | [] => [x]
    | y :: ys => if dlt y x then y :: insF x ys else x :: y :: ys
/-- each once, the first of equal ones -/
def nub : List D → List D
  | [] => []
  | x :: xs => x :: (nub xs).filter fun y => !PyData.eqv x y
mutual
def hasList : D → Bool
  | .list _ => true
  | .tuple xs => hasListAll xs
  | .dict _ => true
  | _ => false
def hasListAll : List D → Bool
  | [] => false
  | x :: xs => hasList x || hasListAll xs
end
def isStrD : D → Bool
  | .str _ => true
  | _ => false
def isTupD : D → Bool
  | .tuple _ => true
  | _ => false
def notNone : D → Bool
  | .none => false
  | _ => true
def small (xs : List D) : Bool := xs.all fun d => decide (d.depth ≤ dep)
def srtD (xs : List D) : R D := do
  .chk (allAlk xs && xs.all notNone && small xs)
  .ok (.list (isort xs))

def minI : List Int → Option Int
  | [] => none
  | x :: xs => some (xs.foldl min x)
def maxI : List Int → Option Int
  | [] => none
  | x :: xs => some (xs.foldl max x)

def op1 : O1 → D → R D
  | .len, .str x => do .chk (decide (x.length ≤ sz)); .ok (.int x.length)
  | .len, d => do let xs ← itemsOf d; .ok (.int xs.length)
  | .tup, d => do let xs ← itemsOf d; .ok (.tuple xs)
  | .lst, d => do let xs ← itemsOf d; .ok (.list xs)
  | .all, .list xs => do let bs ← allM asBool xs; .ok (.bool (bs.all id))
  | .any, .list xs => do let bs ← allM asBool xs; .ok (.bool (bs.any id))
  | .sum, .list xs => do let ns ← allM asInt xs; .ok (.int ns.sum)
  | .mn, .list xs => do let ns ← allM asInt xs; let m ← .ofO (minI ns); .ok (.int m)
  | .mx, .list xs => do let ns ← allM asInt xs; let m ← .ofO (maxI ns); .ok (.int m)
  | .int, .int i => .ok (.int i)
  | .int, .bool b => .ok (.int (if b then 1 else 0))
  | .abs, .int i => .ok (.int (if i < 0 then -i else i))
  | .neg, .int i => .ok (.int (-i))
  | .srt, .list xs => srtD xs
  | .sset, .list xs => do .chk (decide (xs.length ≤ 4) && xs.all (fun d => !hasList d && isTupD d && decide (d.depth ≤ 8)) && allAlk xs); .ok (.list (isort (nub xs)))
  | .nt, d => do let c ← tru d; .ok (.bool (!c))
  | .isN, d => .ok (.bool (!notNone d))
  | .notN, d => .ok (.bool (notNone d))
  | _, _ => .bad

/-- the place of an index, from the end if it is negative -/
def place (n : Nat) (i : Int) : Option Nat :=
  if 0 ≤ i then (if i < n then some i.toNat else none) else if 0 ≤ i + n then some (i + n).toNat else none

def op2 : O2 → D → D → R D
  | .add, .int a, .int b => .ok (.int (a + b))
  | .add, .str a, .str b => do .chk (decide (a.length + b.length ≤ sz)); .ok (.str (a ++ b))
  | .add, .list a, .list b => do .chk (decide (a.length + b.length ≤ sz)); .ok (.list (a ++ b))
  | .add, .tuple a, .tuple b => do .chk (decide (a.length + b.length ≤ sz)); .ok (.tuple (a ++ b))
  | .sub, .int a, .int b => .ok (.int (a - b))
  | .mul, .int a, .int b => do .chk (decide (a.natAbs < 2 ^ 63 ∨ b.natAbs < 2 ^ 63)); .ok (.int (a * b))
  | .mul, .tuple a, .int k => do .chk (decide (2 ≤ k ∧ k ≤ 1000 ∧ 1 ≤ a.length ∧ a.length ≤ 1000)); .ok (.tuple (List.replicate k.toNat a).flatten)
  | .mod, .int a, .int b => do .chk (decide (0 < b)); .ok (.int (a % b))
  | .fdiv, .int a, .int b => do .chk (decide (0 < b ∧ b < 1073741824)); .ok (.int (a / b))
  | .pow, .int a, .int b => do .chk (decide (0 ≤ b ∧ b ≤ 1000 ∧ a.natAbs < 2 ^ 63)); .ok (.int (a ^ b.toNat))
  | .eq, a, b => do .chk (decide (min a.depth b.depth ≤ dep)); .ok (.bool (PyData.eqv a b))
  | .ne, a, b => do .chk (decide (min a.depth b.depth ≤ dep)); .ok (.bool (!PyData.eqv a b))
  | .lt, a, b => do .chk (alk a b && notNone a && decide (min a.depth b.depth ≤ dep)); .ok (.bool (dlt a b))
  | .le, .int a, .int b => .ok (.bool (decide (a ≤ b)))
  | .gt, .int a, .int b => .ok (.bool (decide (b < a)))
  | .ge, .int a, .int b => .ok (.bool (decide (b ≤ a)))
  | .isin, .str a, .str b => do .chk (decide (a.length = 1)); .ok (.bool (b.cps.toList.contains (a.cps.getD 0 0)))
  | .notin, .str a, .str b => do .chk (decide (a.length = 1)); .ok (.bool (!b.cps.toList.contains (a.cps.getD 0 0)))
  | .isin, a, d => do let xs ← itemsOf d; .chk (decide (a.depth ≤ dep)); .ok (.bool (xs.any fun z => PyData.eqv z a))
  | .notin, a, d => do let xs ← itemsOf d; .chk (decide (a.depth ≤ dep)); .ok (.bool (!xs.any fun z => PyData.eqv z a))
  | .idx, .list xs, .int i => do let k ← .ofO (place xs.length i); .ofO xs[k]?
  | .idx, .tuple xs, .int i => do let k ← .ofO (place xs.length i); .ofO xs[k]?
  | _, _, _ => .bad

def isTy : D → Ty → Bool
  | .bool _, .bool => true
  | .bool _, .int => true
  | .int _, .int => true
  | .str _, .str => true
  | .list _, .list => true
  | .tuple _, .tuple => true
  | _, _ => false

/-- where a slice begins or ends -/
def cutIx (n : Nat) (dflt : Nat) : Option Int → Nat
  | none => dflt
  | some i => if 0 ≤ i then min i.toNat n else (i + n).toNat
def cutD (lo hi : Option Int) (xs : List D) : List D :=
  (xs.drop (cutIx xs.length 0 lo)).take (cutIx xs.length xs.length hi - cutIx xs.length 0 lo)
def slD (lo hi : Option Int) : D → R D
  | .list xs => .ok (.list (cutD lo hi xs))
  | .tuple xs => .ok (.tuple (cutD lo hi xs))
  | _ => .bad

def pairs (xs ys : List D) : List D := (xs.zip ys).map fun p => .tuple [p.1, p.2]
def zipD : D → D → R (List D)
  | .list xs, .list ys => .ok (pairs xs ys)
  | .tuple xs, .tuple ys => .ok (pairs xs ys)
  | _, _ => .bad
def numbered (xs : List D) : List D := xs.zipIdx.map fun p => .tuple [.int (p.2 : Int), p.1]
def getV (vs : Vs) (i : Nat) : R D :=
  match vs[i]? with
  | some (.v d) => .ok d
  | _ => .bad
def getC (vs : Vs) (i : Nat) : R Nat :=
  match vs[i]? with
  | some (.c k) => .ok k
  | _ => .bad
def bindAll : List Nat → List D → Vs → R Vs
  | [], [], vs => .ok vs
  | i :: is, d :: ds, vs => bindAll is ds (vs.set i (.v d))
  | _, _, _ => .bad
def bindTg : Tg → D → Vs → R Vs
  | .nm i, d, vs => .ok (vs.set i (.v d))
  | .tp is, d, vs => do let ds ← itemsOf d; bindAll is ds vs

def isCel : Option Sl → Bool
  | some (.c _) => true
  | _ => false
/-- none of the target's slots is a cell -/
def noCel : Tg → Vs → Bool
  | .nm i, vs => !isCel vs[i]?
  | .tp is, vs => is.all fun i => !isCel vs[i]?
def compLoop (f : D → Cs → R (Option D × Cs)) : List D → Cs → R (List D × Cs)
  | [], cs => .ok ([], cs)
  | x :: xs, cs => do
    let (o, cs) ← f x cs
    let (ys, cs) ← compLoop f xs cs
    .ok (match o with | some y => y :: ys | none => ys, cs)

structure Gx where
  consts : Nat → Option D
  cl : Nat → List D → Cs → R (D × Cs)

def cellsAt (vs : Vs) (cs : Cs) : List Nat → R (List (Nat × List D))
  | [] => .ok []
  | i :: is => do
    let k ← getC vs i
    let c ← .ofO cs[k]?
    let r ← cellsAt vs cs is
    .ok ((k, c) :: r)
def putCells : List (Nat × List D) → Cs → Cs → Cs
  | (k, _) :: ks, c :: new, cs => putCells ks new (cs.set k c)
  | _, _, cs => cs
/-- at most one cell is handed on -/
def permute (perm : List Nat) (ds : List D) : R (List D) := allM (fun i => .ofO ds[i]?) perm

/-- which expressions hand out a thing that may lie in a cell -/
def owned : E → Bool
  | .pk _ => false
  | .ife _ a b => owned a && owned b
  | .and a b => owned a && owned b
  | .or a b => owned a && owned b
  | _ => true
/-- a row that lends a cell -/
def lends : E → Bool
  | .cons a r => !owned a || lends r
  | _ => false

/-- no cell is changed -/
def quiet : E → Bool
  | .cons a r => quiet a && quiet r
  | .tup r => quiet r
  | .lst r => quiet r
  | .o1 _ a => quiet a
  | .o2 _ a b => quiet a && quiet b
  | .and a b => quiet a && quiet b
  | .or a b => quiet a && quiet b
  | .ife c a b => quiet c && quiet a && quiet b
  | .isi a _ => quiet a
  | .sl a l h => quiet a && quiet l && quiet h
  | .chain _ _ a b c => quiet a && quiet b && quiet c
  | .comp _ s c e => quiet s && quiet c && quiet e
  | .rng1 a => quiet a
  | .rng2 a b => quiet a && quiet b
  | .enum a => quiet a
  | .zip a b => quiet a && quiet b
  | .call _ refs r => refs.isEmpty && quiet r
  | .callk _ _ r => quiet r
  | .callt _ a r => quiet a && quiet r
  | .rep a b => quiet a && quiet b
  | _ => true
/-- if a list comes, it is a new one; fr: the defs that hand out new lists -/
def fresh (fr : Nat → Bool) : E → Bool
  | .lst _ => true
  | .o1 .lst _ => true
  | .o1 .srt _ => true
  | .o1 .sset _ => true
  | .o2 .add _ _ => true
  | .rep _ _ => true
  | .sl _ _ _ => true
  | .comp _ _ _ _ => true
  | .or a b => fresh fr a && fresh fr b
  | .ife _ a b => fresh fr a && fresh fr b
  | .call f _ _ => fr f
  | .callk f _ _ => fr f
  | _ => false

def evE (G : Gx) : E → Vs → Cs → R (D × Cs)
  | .lit d, _, cs => .ok (d, cs)
  | .gl k, _, cs => do let d ← .ofO (G.consts k); .ok (d, cs)
  | .var i, vs, cs => do let d ← getV vs i; .ok (d, cs)
  | .pk i, vs, cs => do let k ← getC vs i; let c ← .ofO cs[k]?; .ok (.list c, cs)
  | .nil, _, cs => .ok (.tuple [], cs)
  | .cons a r, vs, cs => do
    let (d, cs) ← evE G a vs cs
    let (t, cs) ← evE G r vs cs
    match t with
    | .tuple ds => .ok (.tuple (d :: ds), cs)
    | _ => .bad
  | .tup r, vs, cs => evE G r vs cs
  | .lst r, vs, cs => do
    let (t, cs) ← evE G r vs cs
    match t with
    | .tuple ds => .ok (.list ds, cs)
    | _ => .bad
  | .o1 o a, vs, cs => do
    let (d, cs) ← evE G a vs cs
    let r ← op1 o d
    .ok (r, cs)
  | .o2 o a b, vs, cs => do
    let (d, cs) ← evE G a vs cs
    let (e, cs) ← evE G b vs cs
    let r ← op2 o d e
    .ok (r, cs)
  | .and a b, vs, cs => do
    let (d, cs) ← evE G a vs cs
    let c ← tru d
    if c then evE G b vs cs else .ok (d, cs)
  | .or a b, vs, cs => do
    let (d, cs) ← evE G a vs cs
    let c ← tru d
    if c then .ok (d, cs) else evE G b vs cs
  | .ife c a b, vs, cs => do
    let (d, cs) ← evE G c vs cs
    let c ← tru d
    if c then evE G a vs cs else evE G b vs cs
  | .isi a ts, vs, cs => do
    let (d, cs) ← evE G a vs cs
    .ok (.bool (ts.any (isTy d)), cs)
  | .sl a lo hi, vs, cs => do
    let (d, cs) ← evE G a vs cs
    let (l, cs) ← evE G lo vs cs
    let (h, cs) ← evE G hi vs cs
    let l ← bnd lo l
    let h ← bnd hi h
    let r ← slD l h d
    .ok (r, cs)
  | .nob, _, cs => .ok (.none, cs)
  | .chain o p a b c, vs, cs => do
    let (d, cs) ← evE G a vs cs
    let (e, cs) ← evE G b vs cs
    let r ← op2 o d e
    match r with
    | .bool true => do
      let (f, cs) ← evE G c vs cs
      let r ← op2 p e f
      .ok (r, cs)
    | .bool false => .ok (.bool false, cs)
    | _ => .bad
  | .comp tg src cond elt, vs, cs => do
    let (d, cs) ← evE G src vs cs
    let xs ← seqOf d
    .chk (noCel tg vs)
    let (ys, cs) ← compLoop (fun x cs => do
      let vs ← bindTg tg x vs
      let (c, cs) ← evE G cond vs cs
      let c ← tru c
      if c then do
        let (y, cs) ← evE G elt vs cs
        .ok (some y, cs)
      else .ok (none, cs)) xs cs
    .ok (.list ys, cs)
  | .rng1 a, vs, cs => do
    let (d, cs) ← evE G a vs cs
    let n ← asInt d
    .chk (decide (n ≤ sz ∧ -(2 ^ 62) ≤ n))
    .ok (.list ((List.range n.toNat).map fun (k : Nat) => .int (k : Int)), cs)
  | .rng2 a b, vs, cs => do
    let (d, cs) ← evE G a vs cs
    let (e, cs) ← evE G b vs cs
    let m ← asInt d
    let n ← asInt e
    .chk (decide (n - m ≤ sz ∧ -(2 ^ 62) ≤ n ∧ -(2 ^ 62) ≤ m ∧ n < 2 ^ 62 ∧ m < 2 ^ 62))
    .ok (.list ((List.range (n - m).toNat).map fun (k : Nat) => .int (m + (k : Int))), cs)
  | .enum a, vs, cs => do
    let (d, cs) ← evE G a vs cs
    let xs ← itemsOf d
    .ok (.list (numbered xs), cs)
  | .zip a b, vs, cs => do
    let (d, cs) ← evE G a vs cs
    let (e, cs) ← evE G b vs cs
    let r ← zipD d e
    .ok (.list r, cs)
  | .call f refs r, vs, cs => do
    let (t, cs) ← evE G r vs cs
    match t with
    | .tuple ds => do
      let kc ← cellsAt vs cs refs
      let (d, new) ← G.cl f ds (kc.map (·.2))
      .chk ((!lends r || !hasList d) && new.all fun c => !hasListAll c)
      .ok (d, putCells kc new cs)
    | _ => .bad
  | .callk f perm r, vs, cs => do
    let (t, cs) ← evE G r vs cs
    match t with
    | .tuple ds => do
      let ds ← permute perm ds
      let (d, _) ← G.cl f ds []
      .ok (d, cs)
    | _ => .bad
  | .callt f a r, vs, cs => do
    let (d, cs) ← evE G a vs cs
    match d with
    | .list xs => do
      let (t, cs) ← evE G r vs cs
      match t with
      | .tuple ds => do
        let (d, _) ← G.cl f ds [xs]
        .chk (!lends r || !hasList d)
        .ok (d, cs)
      | _ => .bad
    | _ => .bad
  | .rep a b, vs, cs => do
    let (d, cs) ← evE G a vs cs
    let (e, cs) ← evE G b vs cs
    match d, e with
    | .list xs, .int k => do
      .chk (decide (0 ≤ k ∧ k ≤ 1000 ∧ xs.length ≤ 1000))
      .ok (.list (List.replicate k.toNat xs).flatten, cs)
    | _, _ => .bad
where
  bnd : E → D → R (Option Int)
    | .nob, _ => .ok none
    | _, .int i => .ok (some i)
    | _, _ => .bad

/-- how a statement ends -/
inductive Fl where
  | nx (vs : Vs) (cs : Cs) | rt (d : D) (cs : Cs) | bk (vs : Vs) (cs : Cs) | ct (vs : Vs) (cs : Cs)

def forLoop (f : D → Vs → Cs → R Fl) : List D → Vs → Cs → R Fl
  | [], vs, cs => .ok (.nx vs cs)
  | x :: xs, vs, cs => do
    match ← f x vs cs with
    | .nx vs cs => forLoop f xs vs cs
    | .ct vs cs => forLoop f xs vs cs
    | .bk vs cs => .ok (.nx vs cs)
    | .rt d cs => .ok (.rt d cs)

/-- new lists become cells -/
def ownAll : List Nat → Vs → Cs → R (Vs × Cs)
  | [], vs, cs => .ok (vs, cs)
  | i :: is, vs, cs => do
    match ← getV vs i with
    | .list xs => ownAll is (vs.set i (.c cs.length)) (cs ++ [xs])
    | _ => .bad

/-- nr: how many cells the def was handed -/
def evS (G : Gx) (nr : Nat) : S → Vs → Cs → R Fl
  | .nop, vs, cs => .ok (.nx vs cs)
  | .seq a b, vs, cs => do
    match ← evS G nr a vs cs with
    | .nx vs cs => evS G nr b vs cs
    | f => .ok f
  | .ret e, vs, cs => do let (d, cs) ← evE G e vs cs; .ok (.rt d cs)
  | .retc i, vs, cs => do
    let k ← getC vs i
    .chk (decide (nr ≤ k))
    let c ← .ofO cs[k]?
    .ok (.rt (.list c) cs)
  | .retN, _, cs => .ok (.rt .none cs)
  | .asg i e, vs, cs => do let (d, cs) ← evE G e vs cs; .ok (.nx (vs.set i (.v d)) cs)
  | .cel i e, vs, cs => do
    let (d, cs) ← evE G e vs cs
    match d with
    | .list xs => .ok (.nx (vs.set i (.c cs.length)) (cs ++ [xs]))
    | _ => .bad
  | .par is cels r, vs, cs => do
    let (t, cs) ← evE G r vs cs
    match t with
    | .tuple ds => do
      let vs ← bindAll is ds vs
      let (vs, cs) ← ownAll cels vs cs
      .ok (.nx vs cs)
    | _ => .bad
  | .unp is e, vs, cs => do
    let (t, cs) ← evE G e vs cs
    let ds ← itemsOf t
    let vs ← bindAll is ds vs
    .ok (.nx vs cs)
  | .ifs c a b, vs, cs => do
    let (d, cs) ← evE G c vs cs
    let c ← tru d
    if c then evS G nr a vs cs else evS G nr b vs cs
  | .fors tg src body, vs, cs => do
    let (d, cs) ← evE G src vs cs
    let xs ← seqOf d
    forLoop (fun x vs cs => do
      let vs ← bindTg tg x vs
      evS G nr body vs cs) xs vs cs
  | .expr e, vs, cs => do let (_, cs) ← evE G e vs cs; .ok (.nx vs cs)
  | .app i e, vs, cs => do
    let (d, cs) ← evE G e vs cs
    let k ← getC vs i
    let c ← .ofO cs[k]?
    .chk (decide (c.length < sz))
    .ok (.nx vs (cs.set k (c ++ [d])))
  | .ext i e, vs, cs => do
    let (d, cs) ← evE G e vs cs
    let k ← getC vs i
    let c ← .ofO cs[k]?
    match d with
    | .list xs => do
      .chk (decide (c.length + xs.length ≤ sz))
      .ok (.nx vs (cs.set k (c ++ xs)))
    | _ => .bad
  | .setx i ix e, vs, cs => do
    let (d, cs) ← evE G e vs cs
    let k ← getC vs i
    let (j, cs) ← evE G ix vs cs
    let c ← .ofO cs[k]?
    let n ← asInt j
    let p ← .ofO (place c.length n)
    .ok (.nx vs (cs.set k (c.set p d)))
  | .brk, vs, cs => .ok (.bk vs cs)
  | .cont, vs, cs => .ok (.ct vs cs)
  | .frz i, vs, cs => do
    let k ← getC vs i
    .chk (decide (nr ≤ k))
    let c ← .ofO cs[k]?
    .ok (.nx (vs.set i (.v (.list c))) cs)

/-- a def: how many cells it is handed (its first parameters), how many parameters in all, how many slots, its body -/
structure Def where
  nr : Nat
  np : Nat
  ns : Nat
  body : S

/-- constants and defs, each by its number -/
structure Prog where
  consts : Nat → Option D
  defs : Nat → Option Def

/-- a def's slots at its start -/
def startV (nr : Nat) (ds : List D) (n : Nat) : Vs :=
  (List.range nr).map Sl.c ++ ds.map Sl.v ++ List.replicate (n - (nr + ds.length)) Sl.un
def outOf (nr : Nat) : Fl → R (D × Cs)
  | .rt d cs => .ok (d, cs.take nr)
  | .nx _ cs => .ok (.none, cs.take nr)
  | _ => .bad
/-- a def called, at most n calls deep -/
def evC (P : Prog) : Nat → Nat → List D → Cs → R (D × Cs)
  | 0, _, _, _ => .bad
  | n + 1, f, ds, cs =>
    match P.defs f with
    | none => .bad
    | some d => do
      .chk (decide (cs.length = d.nr ∧ d.nr + ds.length = d.np))
      let r ← evS ⟨P.consts, evC P n⟩ d.nr d.body (startV d.nr ds d.ns) cs
      outOf d.nr r
end LP
set_option autoImplicit false
set_option linter.all false
set_option maxRecDepth 100000
/-! LPRel: how data and cells lie in the hand layer's heaps. -/
namespace LP
open PySem PySem.Spec PyProof.Rows L2

abbrev Frg := PySem.W.Frag
/-- a list of the written part -/
def KL (K : Frg) (a : Addr) (xs : List V) : Prop :=
  ∃ (o : Obj) (its : Array Value) (n : Nat), K.lookup a = some o ∧ o.cls = .type "list" ∧ o.dict = none ∧ o.data = .seq its n ∧ its.size ≤ sizeLine ∧ Vals xs its.toList
/-- a list that may be read and does not lie at a protected place -/
def LA (K : Frg) (H : Hp) (P : List Addr) (a : Addr) (xs : List V) : Prop :=
  (H a = some (.lst xs) ∧ a ∉ P) ∨ (∃ o, H a = some (.frz o (.lst xs))) ∨ KL K a xs
theorem LA.sq {K : Frg} {H : Hp} {P : List Addr} {a : Addr} {xs : List V} (h : LA K H P a xs) : SqL K H a xs := by
  rcases h with ⟨h, _⟩ | h | h
  · exact .inl (.inl h)
  · exact .inl (.inr h)
  · exact .inr h

mutual
/-- the value x is the datum d -/
def DR (K : Frg) (H : Hp) (P : List Addr) : D → V → Prop
  | .none, x => x = .non
  | .bool b, x => x = .bl b
  | .int i, x => x = .int i
  | .str z, x => x = .str z
  | .list ds, x => ∃ a xs, x = .ref a ∧ LA K H P a xs ∧ DRs K H P ds xs
  | .tuple ds, x => ∃ a xs, x = .ref a ∧ SqT K H a xs ∧ DRs K H P ds xs
  | .dict _, _ => False
def DRs (K : Frg) (H : Hp) (P : List Addr) : List D → List V → Prop
  | [], xs => xs = []
  | d :: ds, xs => ∃ y ys, xs = y :: ys ∧ DR K H P d y ∧ DRs K H P ds ys
end

section
variable {K : Frg} {H H' : Hp} {P P' : List Addr}
mutual
theorem DR.imp (hl : ∀ a xs, LA K H P a xs → LA K H' P' a xs) (ht : ∀ a xs, SqT K H a xs → SqT K H' a xs) : ∀ (d : D) (x : V), DR K H P d x → DR K H' P' d x
  | .none, _, h => by simpa only [DR] using h
  | .bool _, _, h => by simpa only [DR] using h
  | .int _, _, h => by simpa only [DR] using h
  | .str _, _, h => by simpa only [DR] using h
  | .list ds, x, h => by
    simp only [DR] at h ⊢
    obtain ⟨a, xs, e, h1, h2⟩ := h
    exact ⟨a, xs, e, hl a xs h1, DRs.imp hl ht ds xs h2⟩
  | .tuple ds, x, h => by
    simp only [DR] at h ⊢
    obtain ⟨a, xs, e, h1, h2⟩ := h
    exact ⟨a, xs, e, ht a xs h1, DRs.imp hl ht ds xs h2⟩
  | .dict _, _, h => by simp only [DR] at h
theorem DRs.imp (hl : ∀ a xs, LA K H P a xs → LA K H' P' a xs) (ht : ∀ a xs, SqT K H a xs → SqT K H' a xs) : ∀ (ds : List D) (xs : List V), DRs K H P ds xs → DRs K H' P' ds xs
  | [], _, h => by simpa only [DRs] using h
  | d :: ds, xs, h => by
    simp only [DRs] at h ⊢
    obtain ⟨y, ys, e, h1, h2⟩ := h
    exact ⟨y, ys, e, DR.imp hl ht d y h1, DRs.imp hl ht ds ys h2⟩
end
/-- fewer protected places -/
theorem LA.less {a : Addr} {xs : List V} (hp : ∀ p ∈ P', p ∈ P) (h : LA K H P a xs) : LA K H P' a xs := by
  rcases h with ⟨h, n⟩ | h
  · exact .inl ⟨h, fun z => n (hp a z)⟩
  · exact .inr h
theorem DR.less (hp : ∀ p ∈ P', p ∈ P) {d : D} {x : V} (h : DR K H P d x) : DR K H P' d x := DR.imp (fun _ _ => LA.less hp) (fun _ _ h => h) d x h
theorem DRs.less (hp : ∀ p ∈ P', p ∈ P) {ds : List D} {xs : List V} (h : DRs K H P ds xs) : DRs K H P' ds xs := DRs.imp (fun _ _ => LA.less hp) (fun _ _ h => h) ds xs h
/-- one new protected place -/
theorem DR.more {p : Addr} (hn : H p = none) {d : D} {x : V} (h : DR K H P d x) : DR K H (p :: P) d x :=
  DR.imp (fun a xs h => by
    rcases h with ⟨h, n⟩ | h
    · refine .inl ⟨h, fun z => ?_⟩
      rcases List.mem_cons.mp z with e | z
      · rw [e, hn] at h; cases h
      · exact n z
    · exact .inr h) (fun _ _ h => h) d x h
theorem DRs.more {p : Addr} (hn : H p = none) {ds : List D} {xs : List V} (h : DRs K H P ds xs) : DRs K H (p :: P) ds xs :=
  DRs.imp (fun a xs h => by
    rcases h with ⟨h, n⟩ | h
    · refine .inl ⟨h, fun z => ?_⟩
      rcases List.mem_cons.mp z with e | z
      · rw [e, hn] at h; cases h
      · exact n z
    · exact .inr h) (fun _ _ h => h) ds xs h
/-- what is not writable stands as it stood -/
def Frm (W : List Addr) (H H' : Hp) : Prop := ∀ b o, b ∉ W → H b = some o → H' b = some o
theorem Frm.refl (W : List Addr) (H : Hp) : Frm W H H := fun _ _ _ h => h
theorem Frm.trans {W : List Addr} {H H1 H2 : Hp} (a : Frm W H H1) (b : Frm W H1 H2) : Frm W H H2 := fun c o n h => b c o n (a c o n h)
theorem Frm.wide {W W' : List Addr} {H H1 : Hp} (a : Frm W H H1) (h : ∀ p ∈ W, p ∈ W') : Frm W' H H1 := fun c o n q => a c o (fun z => n (h c z)) q
theorem Frm.new {W : List Addr} {H : Hp} {p : Addr} {o : HO} (hn : H p = none) : Frm W H (upd H p o) := fun b u _ h => by
  rw [upd_ne (ne_of_none h hn)]
  exact h
/-- all protected places hold things that can be written -/
def Prot (P : List Addr) (H : Hp) : Prop := ∀ p ∈ P, Mut (H p)
theorem Prot.notup {a : Addr} {xs : List V} (h : Prot P H) (e : H a = some (.tup xs)) : a ∉ P := fun z => by
  have := h a z
  rw [e] at this
  exact this
theorem Prot.nofrz {a : Addr} {o : Obj} {u : HO} (h : Prot P H) (e : H a = some (.frz o u)) : a ∉ P := fun z => by
  have := h a z
  rw [e] at this
  exact this
theorem Prot.some {a : Addr} (h : Prot P H) (z : a ∈ P) : ∃ o, H a = some o := by
  have q := h a z
  cases e : H a with
  | none => rw [e] at q; exact q.elim
  | some o => exact ⟨o, rfl⟩
theorem Prot.fresh {a : Addr} (h : Prot P H) (e : H a = none) : a ∉ P := fun z => by
  obtain ⟨o, q⟩ := h.some z
  rw [e] at q; cases q
theorem LA.frm {W : List Addr} (hW : ∀ p ∈ W, p ∈ P) (pr : Prot P H) (f : Frm W H H') {a : Addr} {xs : List V} (h : LA K H P a xs) : LA K H' P a xs := by
  rcases h with ⟨h, n⟩ | ⟨o, h⟩ | h
  · exact .inl ⟨f a _ (fun z => n (hW a z)) h, n⟩
  · exact .inr (.inl ⟨o, f a _ (fun z => pr.nofrz h (hW a z)) h⟩)
  · exact .inr (.inr h)
theorem sqT_frm {W : List Addr} (hW : ∀ p ∈ W, p ∈ P) (pr : Prot P H) (f : Frm W H H') {a : Addr} {xs : List V} (h : SqT K H a xs) : SqT K H' a xs := by
  rcases h with (h | ⟨o, h⟩) | h
  · exact .inl (.inl (f a _ (fun z => pr.notup h (hW a z)) h))
  · exact .inl (.inr ⟨o, f a _ (fun z => pr.nofrz h (hW a z)) h⟩)
  · exact .inr h
theorem DR.frm {W : List Addr} (hW : ∀ p ∈ W, p ∈ P) (pr : Prot P H) (f : Frm W H H') {d : D} {x : V} (h : DR K H P d x) : DR K H' P d x :=
  DR.imp (fun _ _ => LA.frm hW pr f) (fun _ _ => sqT_frm hW pr f) d x h
theorem DRs.frm {W : List Addr} (hW : ∀ p ∈ W, p ∈ P) (pr : Prot P H) (f : Frm W H H') {ds : List D} {xs : List V} (h : DRs K H P ds xs) : DRs K H' P ds xs :=
  DRs.imp (fun _ _ => LA.frm hW pr f) (fun _ _ => sqT_frm hW pr f) ds xs h
mutual
theorem DR.dp : ∀ (d : D) (x : V), DR K H P d x → Dp K H x d
  | .none, _, h => by simp only [DR] at h; subst h; exact .non
  | .bool _, _, h => by simp only [DR] at h; subst h; exact .bl _
  | .int _, _, h => by simp only [DR] at h; subst h; exact .int _
  | .str _, _, h => by simp only [DR] at h; subst h; exact .str _
  | .list ds, x, h => by
    simp only [DR] at h
    obtain ⟨a, xs, e, h1, h2⟩ := h
    subst e
    exact .lst h1.sq (DRs.dp ds xs h2)
  | .tuple ds, x, h => by
    simp only [DR] at h
    obtain ⟨a, xs, e, h1, h2⟩ := h
    subst e
    exact .tup h1 (DRs.dp ds xs h2)
  | .dict _, _, h => by simp only [DR] at h
theorem DRs.dp : ∀ (ds : List D) (xs : List V), DRs K H P ds xs → DpAll K H xs ds
  | [], _, h => by simp only [DRs] at h; subst h; exact .nil
  | d :: ds, xs, h => by
    simp only [DRs] at h
    obtain ⟨y, ys, e, h1, h2⟩ := h
    subst e
    exact .cons (DR.dp d y h1) (DRs.dp ds ys h2)
end
mutual
theorem DR.plain : ∀ (d : D) (x : V), DR K H P d x → d.plain = true
  | .none, _, _ => rfl
  | .bool _, _, _ => rfl
  | .int _, _, _ => rfl
  | .str _, _, _ => rfl
  | .list ds, x, h => by
    simp only [DR] at h
    obtain ⟨a, xs, e, h1, h2⟩ := h
    simp only [PyData.plain]
    exact DRs.plain ds xs h2
  | .tuple ds, x, h => by
    simp only [DR] at h
    obtain ⟨a, xs, e, h1, h2⟩ := h
    simp only [PyData.plain]
    exact DRs.plain ds xs h2
  | .dict _, _, h => by simp only [DR] at h
theorem DRs.plain : ∀ (ds : List D) (xs : List V), DRs K H P ds xs → PyData.plainAll ds = true
  | [], _, _ => rfl
  | d :: ds, xs, h => by
    simp only [DRs] at h
    obtain ⟨y, ys, e, h1, h2⟩ := h
    simp only [PyData.plainAll, DR.plain d y h1, DRs.plain ds ys h2, Bool.and_self]
end
mutual
/-- without lists within, the protected places do not matter -/
theorem DR.nolist : ∀ (d : D) (x : V), hasList d = false → DR K H P d x → DR K H P' d x
  | .none, _, _, h => by simpa only [DR] using h
  | .bool _, _, _, h => by simpa only [DR] using h
  | .int _, _, _, h => by simpa only [DR] using h
  | .str _, _, _, h => by simpa only [DR] using h
  | .list ds, x, n, h => by simp [hasList] at n
  | .tuple ds, x, n, h => by
    simp only [DR] at h ⊢
    obtain ⟨a, xs, e, h1, h2⟩ := h
    exact ⟨a, xs, e, h1, DRs.nolist ds xs (by simpa only [hasList] using n) h2⟩
  | .dict _, _, _, h => by simp only [DR] at h
theorem DRs.nolist : ∀ (ds : List D) (xs : List V), hasListAll ds = false → DRs K H P ds xs → DRs K H P' ds xs
  | [], _, _, h => by simpa only [DRs] using h
  | d :: ds, xs, n, h => by
    simp only [DRs] at h ⊢
    simp only [hasListAll, Bool.or_eq_false_iff] at n
    obtain ⟨y, ys, e, h1, h2⟩ := h
    exact ⟨y, ys, e, DR.nolist d y n.1 h1, DRs.nolist ds ys n.2 h2⟩
end
theorem DRs.length : ∀ {ds : List D} {xs : List V}, DRs K H P ds xs → xs.length = ds.length
  | [], _, h => by simp only [DRs] at h; subst h; rfl
  | d :: ds, xs, h => by
    simp only [DRs] at h
    obtain ⟨y, ys, e, h1, h2⟩ := h
    subst e
    simp only [List.length_cons, DRs.length h2]
theorem DRs.get : ∀ {ds : List D} {xs : List V} {i : Nat} {d : D}, DRs K H P ds xs → ds[i]? = some d → ∃ x, xs[i]? = some x ∧ DR K H P d x
  | [], _, _, _, _, e => by simp at e
  | d :: ds, xs, 0, _, h, e => by
    simp only [DRs] at h
    obtain ⟨y, ys, e', h1, h2⟩ := h
    subst e'
    simp at e
    subst e
    exact ⟨y, rfl, h1⟩
  | d :: ds, xs, i + 1, z, h, e => by
    simp only [DRs] at h
    obtain ⟨y, ys, e', h1, h2⟩ := h
    subst e'
    exact DRs.get (i := i) h2 (by simpa using e)
theorem DRs.append : ∀ {ds es : List D} {xs ys : List V}, DRs K H P ds xs → DRs K H P es ys → DRs K H P (ds ++ es) (xs ++ ys)
  | [], _, _, _, h, h' => by simp only [DRs] at h; subst h; exact h'
  | d :: ds, es, xs, ys, h, h' => by
    simp only [DRs] at h
    obtain ⟨z, zs, e, h1, h2⟩ := h
    subst e
    simp only [List.cons_append, DRs]
    exact ⟨z, zs ++ ys, rfl, h1, DRs.append h2 h'⟩
theorem DRs.one {d : D} {x : V} (h : DR K H P d x) : DRs K H P [d] [x] := by
  simp only [DRs]
  exact ⟨x, [], rfl, h, rfl⟩
theorem DRs.set : ∀ {ds : List D} {xs : List V} {d : D} {x : V} (i : Nat), DRs K H P ds xs → DR K H P d x → DRs K H P (ds.set i d) (xs.set i x)
  | [], _, _, _, i, h, _ => by simp only [DRs] at h; subst h; simp [DRs]
  | d :: ds, xs, e, x, 0, h, h' => by
    simp only [DRs] at h
    obtain ⟨y, ys, e', h1, h2⟩ := h
    subst e'
    simp only [List.set_cons_zero, DRs]
    exact ⟨x, ys, rfl, h', h2⟩
  | d :: ds, xs, e, x, i + 1, h, h' => by
    simp only [DRs] at h
    obtain ⟨y, ys, e', h1, h2⟩ := h
    subst e'
    simp only [List.set_cons_succ, DRs]
    exact ⟨y, ys.set i x, rfl, h1, DRs.set i h2 h'⟩
theorem DRs.drop : ∀ {ds : List D} {xs : List V} (n : Nat), DRs K H P ds xs → DRs K H P (ds.drop n) (xs.drop n)
  | _, _, 0, h => h
  | [], _, n + 1, h => by simp only [DRs] at h; subst h; simp [DRs]
  | d :: ds, xs, n + 1, h => by
    simp only [DRs] at h
    obtain ⟨y, ys, e', h1, h2⟩ := h
    subst e'
    exact DRs.drop n h2
theorem DRs.take : ∀ {ds : List D} {xs : List V} (n : Nat), DRs K H P ds xs → DRs K H P (ds.take n) (xs.take n)
  | _, _, 0, h => by simp [DRs]
  | [], _, n + 1, h => by simp only [DRs] at h; subst h; simp [DRs]
  | d :: ds, xs, n + 1, h => by
    simp only [DRs] at h
    obtain ⟨y, ys, e', h1, h2⟩ := h
    subst e'
    simp only [List.take_succ_cons, DRs]
    exact ⟨y, ys.take n, rfl, h1, DRs.take n h2⟩
end

/-- a datum that may be a lent cell -/
def DB (K : Frg) (H : Hp) (P : List Addr) (d : D) (x : V) : Prop :=
  DR K H P d x ∨ ∃ p c xs, d = .list c ∧ x = .ref p ∧ H p = some (.lst xs) ∧ DRs K H P c xs
theorem DB.dp {K : Frg} {H : Hp} {P : List Addr} {d : D} {x : V} (h : DB K H P d x) : Dp K H x d := by
  rcases h with h | ⟨p, c, xs, rfl, rfl, h1, h2⟩
  · exact h.dp
  · exact .lst (.inl (.inl h1)) h2.dp
theorem DB.plain {K : Frg} {H : Hp} {P : List Addr} {d : D} {x : V} (h : DB K H P d x) : d.plain = true := by
  rcases h with h | ⟨p, c, xs, rfl, rfl, h1, h2⟩
  · exact h.plain
  · simp only [PyData.plain]; exact h2.plain
theorem DB.list {K : Frg} {H : Hp} {P : List Addr} {c : List D} {x : V} (h : DB K H P (.list c) x) : ∃ a xs, x = .ref a ∧ SqL K H a xs ∧ DRs K H P c xs := by
  rcases h with h | ⟨p, c', xs, e, rfl, h1, h2⟩
  · simp only [DR] at h
    obtain ⟨a, xs, e, h1, h2⟩ := h
    exact ⟨a, xs, e, h1.sq, h2⟩
  · cases e
    exact ⟨p, xs, rfl, .inl (.inl h1), h2⟩
theorem DB.tuple {K : Frg} {H : Hp} {P : List Addr} {c : List D} {x : V} (h : DB K H P (.tuple c) x) : ∃ a xs, x = .ref a ∧ SqT K H a xs ∧ DRs K H P c xs := by
  rcases h with h | ⟨p, c', xs, e, rfl, h1, h2⟩
  · simp only [DR] at h
    exact h
  · cases e
theorem DB.int {K : Frg} {H : Hp} {P : List Addr} {i : Int} {x : V} (h : DB K H P (.int i) x) : x = .int i := by
  rcases h with h | ⟨p, c', xs, e, _⟩
  · simpa only [DR] using h
  · cases e
theorem DB.bool {K : Frg} {H : Hp} {P : List Addr} {i : Bool} {x : V} (h : DB K H P (.bool i) x) : x = .bl i := by
  rcases h with h | ⟨p, c', xs, e, _⟩
  · simpa only [DR] using h
  · cases e
theorem DB.str {K : Frg} {H : Hp} {P : List Addr} {i : Str} {x : V} (h : DB K H P (.str i) x) : x = .str i := by
  rcases h with h | ⟨p, c', xs, e, _⟩
  · simpa only [DR] using h
  · cases e
theorem DB.none {K : Frg} {H : Hp} {P : List Addr} {x : V} (h : DB K H P .none x) : x = .non := by
  rcases h with h | ⟨p, c', xs, e, _⟩
  · simpa only [DR] using h
  · cases e
theorem DB.all {K : Frg} {H H' : Hp} {P : List Addr} {d : D} {x : V} (f : Frm [] H H') (h : DB K H P d x) (pr : Prot P H) : DB K H' P d x := by
  have f0 : ∀ b o, H b = some o → H' b = some o := fun b o q => f b o (by simp) q
  rcases h with h | ⟨p, c, xs, rfl, rfl, h1, h2⟩
  · exact .inl (h.frm (W := []) (by simp) pr f)
  · exact .inr ⟨p, c, xs, rfl, rfl, f0 _ _ h1, h2.frm (W := []) (by simp) pr f⟩

/-! ### the slots -/
/-- P: protected places; W: writable ones; ps: where the cells lie; the first nr cells were handed in -/
structure RV (K : Frg) (P W : List Addr) (nr : Nat) (ps : List Addr) (vs : Vs) (cs : Cs) (σ : L2.St) (H : Hp) : Prop where
  len : vs.length = σ.length
  val : ∀ (i : Nat) (d : D), vs[i]? = some (.v d) → ∃ x, σ[i]? = some (some x) ∧ DR K H P d x
  var : ∀ (i k : Nat), vs[i]? = some (.c k) → ∃ p, ps[k]? = some p ∧ σ[i]? = some (some (.ref p))
  cell : ∀ k : Nat, (k < nr ∨ ∃ i : Nat, vs[i]? = some (.c k)) → ∃ p c xs, ps[k]? = some p ∧ cs[k]? = some c ∧ p ∈ W ∧ H p = some (.lst xs) ∧ DRs K H P c xs
  inj : ∀ i j k : Nat, vs[i]? = some (.c k) → vs[j]? = some (.c k) → i = j
  nd : ps.Nodup
  sub : ∀ p ∈ W, p ∈ P
  pr : Prot P H
  cl : ps.length = cs.length

section
variable {K : Frg} {P W : List Addr} {nr : Nat} {ps : List Addr} {vs : Vs} {cs : Cs} {σ : L2.St} {H H' : Hp}
/-- all stands -/
theorem RV.keep (R : RV K P W nr ps vs cs σ H) (f : Frm [] H H') : RV K P W nr ps vs cs σ H' := by
  have f0 : ∀ b o, H b = some o → H' b = some o := fun b o q => f b o (by simp) q
  refine ⟨R.len, fun i d e => ?_, R.var, fun k hk => ?_, R.inj, R.nd, R.sub, fun p hp => ?_, R.cl⟩
  · obtain ⟨x, e1, h⟩ := R.val i d e
    exact ⟨x, e1, h.frm (W := []) (by simp) R.pr f⟩
  · obtain ⟨p, c, xs, e1, e2, e3, e4, e5⟩ := R.cell k hk
    exact ⟨p, c, xs, e1, e2, e3, f0 _ _ e4, e5.frm (W := []) (by simp) R.pr f⟩
  · obtain ⟨o, e⟩ := R.pr.some hp
    have := R.pr p hp
    rw [e] at this
    rw [f0 _ _ e]
    exact this
/-- one more protected place (a list that is being made) -/
theorem RV.more (R : RV K P W nr ps vs cs σ H) {p : Addr} {o : HO} (hn : H p = none) (mu : Mut (some o)) : RV K (p :: P) W nr ps vs cs σ (upd H p o) := by
  have f : Frm [] H (upd H p o) := Frm.new hn
  have pr' : Prot (p :: P) (upd H p o) := fun q hq => by
    rcases List.mem_cons.mp hq with e | hq
    · subst e; rw [upd_same]; exact mu
    · obtain ⟨u, e⟩ := R.pr.some hq
      have := R.pr q hq
      rw [e] at this
      rw [upd_ne (ne_of_none e hn), e]
      exact this
  have up : ∀ {d x}, DR K H P d x → DR K (upd H p o) (p :: P) d x := fun {d x} h => by
    refine DR.imp (fun a xs h => ?_) (fun a xs h => sqT_frm (W := []) (by simp) R.pr f h) d x (h.more hn)
    rcases h with ⟨h, n⟩ | ⟨u, h⟩ | h
    · exact .inl ⟨f _ _ (by simp) h, n⟩
    · exact .inr (.inl ⟨u, f _ _ (by simp) h⟩)
    · exact .inr (.inr h)
  have ups : ∀ {ds xs}, DRs K H P ds xs → DRs K (upd H p o) (p :: P) ds xs := fun {d x} h => by
    refine DRs.imp (fun a xs h => ?_) (fun a xs h => sqT_frm (W := []) (by simp) R.pr f h) d x (h.more hn)
    rcases h with ⟨h, n⟩ | ⟨u, h⟩ | h
    · exact .inl ⟨f _ _ (by simp) h, n⟩
    · exact .inr (.inl ⟨u, f _ _ (by simp) h⟩)
    · exact .inr (.inr h)
  refine ⟨R.len, fun i d e => ?_, R.var, fun k hk => ?_, R.inj, R.nd, fun q hq => List.mem_cons_of_mem _ (R.sub q hq), pr', R.cl⟩
  · obtain ⟨x, e1, h⟩ := R.val i d e
    exact ⟨x, e1, up h⟩
  · obtain ⟨q, c, xs, e1, e2, e3, e4, e5⟩ := R.cell k hk
    exact ⟨q, c, xs, e1, e2, e3, f _ _ (by simp) e4, ups e5⟩
/-- fewer protected places -/
theorem RV.less {P' : List Addr} (R : RV K P W nr ps vs cs σ H) (h : ∀ p ∈ P', p ∈ P) (hw : ∀ p ∈ W, p ∈ P') : RV K P' W nr ps vs cs σ H := by
  refine ⟨R.len, fun i d e => ?_, R.var, fun k hk => ?_, R.inj, R.nd, hw, fun q hq => R.pr q (h q hq), R.cl⟩
  · obtain ⟨x, e1, q⟩ := R.val i d e
    exact ⟨x, e1, q.less h⟩
  · obtain ⟨q, c, xs, e1, e2, e3, e4, e5⟩ := R.cell k hk
    exact ⟨q, c, xs, e1, e2, e3, e4, e5.less h⟩
/-- a value is stored -/
theorem RV.set (R : RV K P W nr ps vs cs σ H) {i : Nat} {d : D} {x : V} (h : DR K H P d x) : RV K P W nr ps (vs.set i (.v d)) cs (σ.set i (some x)) H := by
  have key : ∀ j z, (vs.set i (.v d))[j]? = some z → (j = i ∧ z = .v d ∧ i < vs.length) ∨ (j ≠ i ∧ vs[j]? = some z) := fun j z e => by
    by_cases hj : j = i
    · subst hj
      by_cases hl : j < vs.length
      · rw [List.getElem?_set_self hl] at e
        cases e
        exact .inl ⟨rfl, rfl, hl⟩
      · rw [List.getElem?_eq_none (by simpa using hl)] at e
        cases e
    · rw [List.getElem?_set_ne (Ne.symm hj)] at e
      exact .inr ⟨hj, e⟩
  refine ⟨by simp [R.len], fun j e h' => ?_, fun j k h' => ?_, fun k hk => R.cell k ?_, fun a b k ha hb => ?_, R.nd, R.sub, R.pr, R.cl⟩
  · rcases key j _ h' with ⟨rfl, e', hl⟩ | ⟨hj, e'⟩
    · cases e'
      exact ⟨x, by rw [List.getElem?_set_self (by rw [← R.len]; exact hl)], h⟩
    · obtain ⟨y, e1, q⟩ := R.val j e e'
      exact ⟨y, by rw [List.getElem?_set_ne (Ne.symm hj)]; exact e1, q⟩
  · rcases key j _ h' with ⟨rfl, e', _⟩ | ⟨hj, e'⟩
    · cases e'
    · obtain ⟨p, e1, e2⟩ := R.var j k e'
      exact ⟨p, e1, by rw [List.getElem?_set_ne (Ne.symm hj)]; exact e2⟩
  · rcases hk with hk | ⟨j, hk⟩
    · exact .inl hk
    · rcases key j _ hk with ⟨_, e', _⟩ | ⟨_, e'⟩
      · cases e'
      · exact .inr ⟨j, e'⟩
  · rcases key a _ ha with ⟨_, e', _⟩ | ⟨_, ha⟩
    · cases e'
    · rcases key b _ hb with ⟨_, e', _⟩ | ⟨_, hb⟩
      · cases e'
      · exact R.inj a b k ha hb
/-- slots forgotten -/
theorem RV.weak (R : RV K P W nr ps vs cs σ H) {vs' : Vs} {σ' : L2.St} (hl : vs'.length = σ'.length) (h : ∀ (i : Nat) z, vs'[i]? = some z → z ≠ .un → vs[i]? = some z ∧ σ'[i]? = σ[i]?) : RV K P W nr ps vs' cs σ' H := by
  refine ⟨hl, fun i d e => ?_, fun i k e => ?_, fun k hk => R.cell k ?_, fun i j k a b => ?_, R.nd, R.sub, R.pr, R.cl⟩
  · obtain ⟨e1, e2⟩ := h i _ e (fun z => by cases z)
    obtain ⟨x, e3, q⟩ := R.val i d e1
    exact ⟨x, e2.trans e3, q⟩
  · obtain ⟨e1, e2⟩ := h i _ e (fun z => by cases z)
    obtain ⟨p, e3, q⟩ := R.var i k e1
    exact ⟨p, e3, e2.trans q⟩
  · rcases hk with hk | ⟨i, hk⟩
    · exact .inl hk
    · exact .inr ⟨i, (h i _ hk (fun z => by cases z)).1⟩
  · exact R.inj i j k (h i _ a (fun z => by cases z)).1 (h j _ b (fun z => by cases z)).1
end
end LP
set_option autoImplicit false
set_option linter.all false
set_option maxRecDepth 100000
/-! LPJ: what is shown of an expression: the model's run comes to the datum that the interpreter tells. -/
namespace LP
open PySem PySem.Spec PyProof.Rows L2

/-- a new list -/
def NewL (K : Frg) (P : List Addr) (H H' : Hp) (d : D) (x : V) : Prop :=
  ∀ c, d = .list c → ∃ p xs, x = .ref p ∧ H p = none ∧ H' p = some (.lst xs) ∧ DRs K H' (p :: P) c xs
/-- a cell that is still told of -/
def Live (nr : Nat) (vs : Vs) (k : Nat) : Prop := k < nr ∨ ∃ i : Nat, vs[i]? = some (.c k)

/-- the state behind an expression -/
structure Aft (K : Frg) (P W : List Addr) (nr : Nat) (ps : List Addr) (vs : Vs) (σ : L2.St) (H : Hp) (q : Bool) (cs cs' : Cs) (H' : Hp) : Prop where
  rv : RV K P W nr ps vs cs' σ H'
  frm : Frm W H H'
  qui : q = true → Frm [] H H'
  chg : ∀ (k : Nat) (p : Addr), Live nr vs k → ps[k]? = some p → (H' p = H p ∧ cs'[k]? = cs[k]?) ∨ ∃ c, cs'[k]? = some c ∧ hasListAll c = false
section
variable {K : Frg} {P W : List Addr} {nr : Nat} {ps : List Addr} {vs : Vs} {σ : L2.St} {H H1 H2 : Hp} {q q1 q2 : Bool} {cs cs1 cs2 : Cs}
theorem Aft.refl (R : RV K P W nr ps vs cs σ H) : Aft K P W nr ps vs σ H q cs cs H := ⟨R, Frm.refl _ _, fun _ => Frm.refl _ _, fun _ _ _ _ => .inl ⟨rfl, rfl⟩⟩
theorem Aft.trans (a : Aft K P W nr ps vs σ H q1 cs cs1 H1) (b : Aft K P W nr ps vs σ H1 q2 cs1 cs2 H2) : Aft K P W nr ps vs σ H (q1 && q2) cs cs2 H2 := by
  refine ⟨b.rv, a.frm.trans b.frm, fun h => ?_, fun k p l e => ?_⟩
  · rw [Bool.and_eq_true] at h
    exact (a.qui h.1).trans (b.qui h.2)
  · rcases b.chg k p l e with ⟨e1, e2⟩ | h
    · rcases a.chg k p l e with ⟨e3, e4⟩ | ⟨c, e3, e4⟩
      · exact .inl ⟨e1.trans e3, e2.trans e4⟩
      · exact .inr ⟨c, e2.trans e3, e4⟩
    · exact .inr h
theorem Aft.qu (a : Aft K P W nr ps vs σ H q1 cs cs1 H1) (h : q2 = true → q1 = true) : Aft K P W nr ps vs σ H q2 cs cs1 H1 := ⟨a.rv, a.frm, fun z => a.qui (h z), a.chg⟩
/-- a step that leaves all that is tracked -/
theorem Aft.step (a : Aft K P W nr ps vs σ H q cs cs1 H1) (f : Frm [] H1 H2) : Aft K P W nr ps vs σ H q cs cs1 H2 := by
  refine ⟨a.rv.keep f, a.frm.trans (f.wide (by simp)), fun z => (a.qui z).trans f, fun k p l e => ?_⟩
  rcases a.chg k p l e with ⟨e1, e2⟩ | h
  · obtain ⟨p', c, xs, e3, e4, e5, e6, e7⟩ := a.rv.cell k l
    rw [e] at e3; cases e3
    exact .inl ⟨by rw [← e1, e6, f p _ (by simp) e6], e2⟩
  · exact .inr h
/-- the new list's place is told of nowhere -/
theorem RV.up (R : RV K P W nr ps vs cs σ H) (a : Aft K P W nr ps vs σ H q cs cs1 H1) {p : Addr} (hn : H p = none) (mu : Mut (H1 p)) : RV K (p :: P) W nr ps vs cs1 σ H1 := by
  have hp : p ∉ P := R.pr.fresh hn
  have up : ∀ {d x}, DR K H P d x → DR K H1 (p :: P) d x := fun {d x} h => by
    refine DR.imp (fun b xs h => ?_) (fun b xs h => sqT_frm R.sub R.pr a.frm h) d x (h.more hn)
    rcases h with ⟨h, n⟩ | ⟨u, h⟩ | h
    · exact .inl ⟨a.frm _ _ (fun z => n (List.mem_cons_of_mem _ (R.sub _ z))) h, n⟩
    · exact .inr (.inl ⟨u, a.frm _ _ (fun z => R.pr.nofrz h (R.sub _ z)) h⟩)
    · exact .inr (.inr h)
  have ups : ∀ {ds xs}, DRs K H P ds xs → DRs K H1 (p :: P) ds xs := fun {d x} h => by
    refine DRs.imp (fun b xs h => ?_) (fun b xs h => sqT_frm R.sub R.pr a.frm h) d x (h.more hn)
    rcases h with ⟨h, n⟩ | ⟨u, h⟩ | h
    · exact .inl ⟨a.frm _ _ (fun z => n (List.mem_cons_of_mem _ (R.sub _ z))) h, n⟩
    · exact .inr (.inl ⟨u, a.frm _ _ (fun z => R.pr.nofrz h (R.sub _ z)) h⟩)
    · exact .inr (.inr h)
  refine ⟨R.len, fun i d e => ?_, R.var, fun k hk => ?_, R.inj, R.nd, fun z hz => List.mem_cons_of_mem _ (R.sub z hz), fun z hz => ?_, a.rv.cl⟩
  · obtain ⟨x, e1, h⟩ := R.val i d e
    exact ⟨x, e1, up h⟩
  · obtain ⟨p1, c1, xs1, e1, e2, e3, e4, e5⟩ := a.rv.cell k hk
    refine ⟨p1, c1, xs1, e1, e2, e3, e4, ?_⟩
    rcases a.chg k p1 hk e1 with ⟨f1, f2⟩ | ⟨c2, f1, f2⟩
    · obtain ⟨p2, c2, xs2, g1, g2, g3, g4, g5⟩ := R.cell k hk
      rw [e1] at g1; cases g1
      rw [e2] at f2
      rw [g2] at f2
      cases f2
      rw [g4, e4] at f1
      cases f1
      exact ups g5
    · rw [e2] at f1; cases f1
      exact DRs.nolist _ _ f2 e5
  · rcases List.mem_cons.mp hz with e | hz
    · rw [e]; exact mu
    · exact a.rv.pr z hz
end

/-- behind an expression: the state, the value -/
structure Pst0 (K : Frg) (P W : List Addr) (nr : Nat) (ps : List Addr) (vs : Vs) (σ : L2.St) (H : Hp) (fr : Nat → Bool) (e : E) (cs cs' : Cs) (d : D) (x : V) (H' : Hp) : Prop where
  aft : Aft K P W nr ps vs σ H (quiet e) cs cs' H'
  db : DB K H' P d x
  own : owned e = true → DR K H' P d x
  new : fresh fr e = true → NewL K P H H' d x

structure Pst (K : Frg) (P W : List Addr) (nr : Nat) (ps : List Addr) (vs : Vs) (σ : L2.St) (H : Hp) (fr : Nat → Bool) (e : E) (cs cs' : Cs) (d : D) (x : V) (H' : Hp) : Prop extends Pst0 K P W nr ps vs σ H fr e cs cs' d x H' where
  siz : ∀ c, (d = .list c ∨ d = .tuple c) → c.length ≤ sz
/-- what an expression's reading asks: that the interpreter comes to an end -/
def tE0 (K : Frg) (nr : Nat) (G : Gx) (fr : Nat → Bool) (e : E) : TE := fun σ H Q =>
  ∃ P W ps vs cs d cs', RV K P W nr ps vs cs σ H ∧ evE G e vs cs = .ok (d, cs') ∧ ∀ x H', Pst0 K P W nr ps vs σ H fr e cs cs' d x H' → Q x H'
def tE (K : Frg) (nr : Nat) (G : Gx) (fr : Nat → Bool) (e : E) : TE := fun σ H Q =>
  ∃ P W ps vs cs d cs', RV K P W nr ps vs cs σ H ∧ evE G e vs cs = .ok (d, cs') ∧ ∀ x H', Pst K P W nr ps vs σ H fr e cs cs' d x H' → Q x H'
def DBs (K : Frg) (H : Hp) (P : List Addr) : List D → List V → Prop
  | [], xs => xs = []
  | d :: ds, xs => ∃ y ys, xs = y :: ys ∧ DB K H P d y ∧ DBs K H P ds ys
structure PstR (K : Frg) (P W : List Addr) (nr : Nat) (ps : List Addr) (vs : Vs) (σ : L2.St) (H : Hp) (e : E) (cs cs' : Cs) (ds : List D) (xs : List V) (H' : Hp) : Prop where
  aft : Aft K P W nr ps vs σ H (quiet e) cs cs' H'
  db : DBs K H' P ds xs
  own : lends e = false → DRs K H' P ds xs
/-- a row's reading -/
def tR (K : Frg) (nr : Nat) (G : Gx) (e : E) : TA := fun σ H Q =>
  ∃ P W ps vs cs ds cs', RV K P W nr ps vs cs σ H ∧ evE G e vs cs = .ok (.tuple ds, cs') ∧ ∀ xs H', PstR K P W nr ps vs σ H e cs cs' ds xs H' → Q xs H'
/-- a test's reading -/
def tT (K : Frg) (nr : Nat) (G : Gx) (e : E) : TT := fun σ H Q =>
  ∃ P W ps vs cs d cs' b, RV K P W nr ps vs cs σ H ∧ evE G e vs cs = .ok (d, cs') ∧ tru d = .ok b ∧ ∀ H', Aft K P W nr ps vs σ H (quiet e) cs cs' H' → Q b H'

section
variable {X : L2.Cx} {ex a b : Expr} {t t' ta tb : TE} {pos : Pos}
theorem PE.weak (h : PE X ex t) (w : ∀ σ H Q, t' σ H Q → t σ H Q) : PE X ex t' := ⟨fun pins s σ H Q I q => h.run pins s σ H Q I (w σ H Q q)⟩
theorem PT.weak {u u' : TT} (h : PT X ex u) (w : ∀ σ H Q, u' σ H Q → u σ H Q) : PT X ex u' := ⟨fun pins s σ H Q I q => h.run pins s σ H Q I (w σ H Q q)⟩
theorem PA.weak {es : List Expr} {u u' : TA} (h : PA X es u) (w : ∀ σ H Q, u' σ H Q → u σ H Q) : PA X es u' := ⟨fun pos pins s σ H Q I q => h.run pos pins s σ H Q I (w σ H Q q)⟩

variable {nr : Nat} {G : Gx} {fr : Nat → Bool}
/-- sizes are known of what lies in the heap -/
theorem PE.up {e : E} (h : PE X ex (tE0 X.K nr G fr e)) : PE X ex (tE X.K nr G fr e) := by
  refine ⟨fun pins s σ H Q I q => ?_⟩
  obtain ⟨P, W, ps, vs, cs, d, cs', R, ev, q⟩ := q
  refine thn (h.run pins s σ H (fun x H' => Pst0 X.K P W nr ps vs σ H fr e cs cs' d x H') I ⟨P, W, ps, vs, cs, d, cs', R, ev, fun x H' p => p⟩) fun u s' ⟨x, H', I', r, p⟩ => ?_
  refine ⟨x, H', I', r, q x H' ⟨p, fun c hc => ?_⟩⟩
  have sl : sizeLine = sz := sizeLine_eq
  have b := p.db
  rcases hc with rfl | rfl
  · obtain ⟨a, xs, _, h1, h2⟩ := b.list
    obtain ⟨_, _, _, z⟩ := I'.list h1
    rw [← h2.length, ← sl]; exact z
  · obtain ⟨a, xs, _, h1, h2⟩ := b.tuple
    obtain ⟨_, _, _, z⟩ := I'.tuple h1
    rw [← h2.length, ← sl]; exact z
/-! ### truth -/
theorem tru_v {K : Frg} {H : Hp} {P : List Addr} {d : D} {x : V} {b : Bool} (h : DB K H P d x) (e : tru d = .ok b) : TruV K x H b := by
  cases d with
  | none => rw [h.none]; cases e; rfl
  | bool c => rw [h.bool]; cases e; rfl
  | int i => rw [h.int]; cases e; rfl
  | str z => cases e
  | list c =>
    obtain ⟨a, xs, rfl, h1, h2⟩ := h.list
    cases e
    refine .inl ⟨xs, h1, ?_⟩
    have := h2.length
    cases xs <;> cases c <;> simp_all
  | tuple c =>
    obtain ⟨a, xs, rfl, h1, h2⟩ := h.tuple
    cases e
    refine .inr (.inl ⟨xs, h1, ?_⟩)
    have := h2.length
    cases xs <;> cases c <;> simp_all
  | dict _ => cases e
/-- a plain expression as a test -/
theorem test_of {e : E} (h : PE X ex (tE X.K nr G fr e)) (he : ∀ whole, isTrue ex X.env whole = (do let v ← whole; standAt ex.pos; holding [v] (truthy v))) : PT X ex (tT X.K nr G e) := by
  refine PT.weak (pt_truth h he) fun σ H Q q => ?_
  obtain ⟨P, W, ps, vs, cs, d, cs', b, R, ev, tr, q⟩ := q
  exact ⟨P, W, ps, vs, cs, d, cs', R, ev, fun x H' p => ⟨b, tru_v p.db tr, q H' p.aft⟩⟩

/-! ### two places -/
/-- an operation on values by the interpreter's own operation -/
def rG (K : Frg) (g : D → D → R D) (nw : Bool) : R2 := fun x y H Q =>
  ∃ P d1 d2 d, Prot P H ∧ DB K H P d1 x ∧ DB K H P d2 y ∧ g d1 d2 = .ok d ∧ ∀ z H', Frm [] H H' → DR K H' P d z → (nw = true → NewL K P H H' d z) → Q z H'
theorem DBs.keep {K : Frg} {H H' : Hp} {P : List Addr} (f : Frm [] H H') (pr : Prot P H) : ∀ {ds : List D} {xs : List V}, DBs K H P ds xs → DBs K H' P ds xs
  | [], _, h => h
  | d :: ds, xs, h => by
    obtain ⟨y, ys, e, h1, h2⟩ := h
    exact ⟨y, ys, e, h1.all f pr, DBs.keep f pr h2⟩
theorem NewL.later {K : Frg} {P : List Addr} {H H1 H2 : Hp} {d : D} {x : V} {W : List Addr} (f : Frm W H H1) (hW : ∀ p ∈ W, p ∈ P) (pr : Prot P H1) (h : NewL K P H1 H2 d x) : NewL K P H H2 d x := fun c e => by
  obtain ⟨p, xs, e1, e2, e3, e4⟩ := h c e
  refine ⟨p, xs, e1, ?_, e3, e4⟩
  cases q : H p with
  | none => rfl
  | some o =>
    by_cases hp : p ∈ W
    · exact absurd (hW p hp) (pr.fresh e2)
    · rw [f p o hp q] at e2; cases e2
/-- a value carried over a later expression -/
theorem Pst.over {K : Frg} {P W : List Addr} {ps : List Addr} {vs : Vs} {σ : L2.St} {H H1 H2 : Hp} {e e2 : E} {cs cs1 cs2 : Cs} {d : D} {x : V} (p : Pst K P W nr ps vs σ H fr e cs cs1 d x H1) (a : Aft K P W nr ps vs σ H1 (quiet e2) cs1 cs2 H2)
    (wf : (owned e || quiet e2) = true) : DB K H2 P d x := by
  rw [Bool.or_eq_true] at wf
  rcases wf with h | h
  · exact .inl ((p.own h).frm p.aft.rv.sub p.aft.rv.pr a.frm)
  · exact p.db.all (a.qui h) p.aft.rv.pr
theorem o2_weak {K : Frg} {o : O2} {e1 e2 : E} {nw : Bool} (wf : (owned e1 || quiet e2) = true) (hnw : fresh fr (.o2 o e1 e2) = true → nw = true) (σ : L2.St) (H : Hp) (Q : VK) (h : tE0 K nr G fr (.o2 o e1 e2) σ H Q) :
    tOp (rG K (op2 o) nw) (tE K nr G fr e1) (tE K nr G fr e2) σ H Q := by
  obtain ⟨P, W, ps, vs, cs, d, cs', R, ev, q⟩ := h
  simp only [evE] at ev
  obtain ⟨⟨d1, cs1⟩, ev1, ev⟩ := LP.R.bind_ok ev
  obtain ⟨⟨d2, cs2⟩, ev2, ev⟩ := LP.R.bind_ok ev
  obtain ⟨r, ev3, ev⟩ := LP.R.bind_ok ev
  cases ev
  refine ⟨P, W, ps, vs, cs, d1, cs1, R, ev1, fun x H1 p1 => ⟨P, W, ps, vs, cs1, d2, cs2, p1.aft.rv, ev2, fun y H2 p2 => ?_⟩⟩
  refine ⟨P, d1, d2, _, p2.aft.rv.pr, p1.over p2.aft wf, p2.db, ev3, fun z H' f dr nl => q z H' ?_⟩
  have a := (p1.aft.trans p2.aft).step f
  refine ⟨a, .inl dr, fun _ => dr, fun z => ?_⟩
  exact (nl (hnw z)).later (p1.aft.frm.trans p2.aft.frm) R.sub p2.aft.rv.pr
/-! ### one place -/
def rG1 (K : Frg) (g : D → R D) (nw : Bool) : V → Hp → VK → Prop := fun x H Q =>
  ∃ P d1 d, Prot P H ∧ DB K H P d1 x ∧ g d1 = .ok d ∧ ∀ z H', Frm [] H H' → DR K H' P d z → (nw = true → NewL K P H H' d z) → Q z H'
theorem o1_weak {K : Frg} {o : O1} {e1 : E} {nw : Bool} (hnw : fresh fr (.o1 o e1) = true → nw = true) (σ : L2.St) (H : Hp) (Q : VK) (h : tE0 K nr G fr (.o1 o e1) σ H Q) :
    tUn (rG1 K (op1 o) nw) (tE K nr G fr e1) σ H Q := by
  obtain ⟨P, W, ps, vs, cs, d, cs', R, ev, q⟩ := h
  simp only [evE] at ev
  obtain ⟨⟨d1, cs1⟩, ev1, ev⟩ := LP.R.bind_ok ev
  obtain ⟨r, ev3, ev⟩ := LP.R.bind_ok ev
  cases ev
  refine ⟨P, W, ps, vs, cs, d1, cs1, R, ev1, fun x H1 p1 => ?_⟩
  refine ⟨P, d1, _, p1.aft.rv.pr, p1.db, ev3, fun z H' f dr nl => q z H' ?_⟩
  refine ⟨p1.aft.step f, .inl dr, fun _ => dr, fun z => ?_⟩
  exact (nl (hnw z)).later p1.aft.frm R.sub p1.aft.rv.pr
/-- a call of a built-in with one argument -/
def rG1L (K : Frg) (g : D → R D) (nw : Bool) : List V → Hp → VK → Prop := fun xs H Q => ∃ x, xs = [x] ∧ rG1 K g nw x H Q
theorem o1_call {K : Frg} {o : O1} {e1 : E} {nw : Bool} (hnw : fresh fr (.o1 o e1) = true → nw = true) (σ : L2.St) (H : Hp) (Q : VK) (h : tE0 K nr G fr (.o1 o e1) σ H Q) :
    tCB (rG1L K (op1 o) nw) (tCons (tE K nr G fr e1) tNil) σ H Q := by
  obtain ⟨P, W, ps, vs, cs, d, cs', R, ev, q⟩ := o1_weak (G := G) (nr := nr) hnw σ H Q h
  exact ⟨P, W, ps, vs, cs, d, cs', R, ev, fun x H' p => ⟨x, rfl, q x H' p⟩⟩
/-- rows that do not begin with a star -/
def noStar : Expr → Bool
  | .Starred _ _ => false
  | _ => true
theorem star_cons {e : Expr} {es : List Expr} {env : Env} (h : noStar e = true) : starEach (e :: es) env = (false, eval e env) :: starEach es env := by
  cases e <;> first | rfl | cases h
theorem star_any : ∀ {es : List Expr} {env : Env} {pos : Pos}, es.all noStar = true → (backTo pos (starEach es env)).any (·.1) = false
  | [], _, _, _ => rfl
  | e :: es, env, pos, h => by
    simp only [List.all_cons, Bool.and_eq_true] at h
    rw [star_cons h.1]
    show (false || (backTo pos (starEach es env)).any (·.1)) = false
    rw [star_any h.2]
    rfl
theorem row_nil : PA X [] (tR X.K nr G .nil) := PA.weak pa_nil fun σ H Q h => by
  obtain ⟨P, W, ps, vs, cs, ds, cs', R, ev, q⟩ := h
  simp only [evE] at ev
  cases ev
  exact q [] H ⟨Aft.refl R, rfl, fun _ => rfl⟩
theorem row_cons {e : Expr} {es : List Expr} {a r : E} (ha : PE X e (tE X.K nr G fr a)) (hr : PA X es (tR X.K nr G r)) (hs : noStar e = true) (wf : (owned a || quiet r) = true) : PA X (e :: es) (tR X.K nr G (.cons a r)) :=
  PA.weak (pa_cons ha hr (star_cons hs)) fun σ H Q h => by
    obtain ⟨P, W, ps, vs, cs, ds, cs', R, ev, q⟩ := h
    simp only [evE] at ev
    obtain ⟨⟨d1, cs1⟩, ev1, ev⟩ := LP.R.bind_ok ev
    obtain ⟨⟨t2, cs2⟩, ev2, ev⟩ := LP.R.bind_ok ev
    cases t2 with
    | tuple ds2 =>
      cases ev
      refine ⟨P, W, ps, vs, cs, d1, cs1, R, ev1, fun x H1 p1 => ⟨P, W, ps, vs, cs1, ds2, _, p1.aft.rv, ev2, fun ys H2 p2 => q (x :: ys) H2 ?_⟩⟩
      refine ⟨p1.aft.trans p2.aft, ⟨x, ys, rfl, p1.over p2.aft wf, p2.db⟩, fun l => ?_⟩
      simp only [lends, Bool.or_eq_false_iff, Bool.not_eq_false'] at l
      simp only [DRs]
      exact ⟨x, ys, rfl, (p1.own l.1).frm p1.aft.rv.sub p1.aft.rv.pr p2.aft.frm, p2.own l.2⟩
    | _ => cases ev
end
end LP
set_option autoImplicit false
set_option linter.all false
set_option maxRecDepth 100000
set_option maxHeartbeats 1000000
/-! LPOps: the operations, by values. -/
namespace LP
open PySem PySem.Spec PyProof.Rows L2
section
variable {X : L2.Cx}
theorem new_none {K : Frg} {P : List Addr} {H H' : Hp} {d : D} {z : V} (h : ∀ c, d ≠ .list c) : NewL K P H H' d z := fun c e => absurd e (h c)
theorem DRs.nil {K : Frg} {H : Hp} {P : List Addr} : DRs K H P [] [] := by simp only [DRs]
/-- a new list laid -/
theorem laid_list {K : Frg} {H : Hp} {P : List Addr} {p : Addr} {ds : List D} {xs : List V} (pr : Prot P H) (hn : H p = none) (h : DRs K H P ds xs) :
    DR K (upd H p (.lst xs)) P (.list ds) (.ref p) ∧ NewL K P H (upd H p (.lst xs)) (.list ds) (.ref p) := by
  have f : Frm [] H (upd H p (.lst xs)) := Frm.new hn
  have h' : DRs K (upd H p (.lst xs)) (p :: P) ds xs := by
    refine DRs.imp (fun a ys q => ?_) (fun a ys q => sqT_frm (W := []) (by simp) pr f q) ds xs (h.more hn)
    rcases q with ⟨q, n⟩ | ⟨u, q⟩ | q
    · exact .inl ⟨f _ _ (by simp) q, n⟩
    · exact .inr (.inl ⟨u, f _ _ (by simp) q⟩)
    · exact .inr (.inr q)
  refine ⟨?_, fun c e => ?_⟩
  · simp only [DR]
    exact ⟨p, xs, rfl, .inl ⟨upd_same, pr.fresh hn⟩, h'.less (fun q z => List.mem_cons_of_mem _ z)⟩
  · cases e
    exact ⟨p, xs, rfl, hn, upd_same, h'⟩
theorem laid_tup {K : Frg} {H : Hp} {P : List Addr} {p : Addr} {ds : List D} {xs : List V} (pr : Prot P H) (hn : H p = none) (h : DRs K H P ds xs) : DR K (upd H p (.tup xs)) P (.tuple ds) (.ref p) := by
  have f : Frm [] H (upd H p (.tup xs)) := Frm.new hn
  simp only [DR]
  exact ⟨p, xs, rfl, .inl (.inl upd_same), h.frm (W := []) (by simp) pr f⟩
theorem op_catL : OpR X (binaryOp .Add) (fun x y H Q => ∃ l b xs zs, x = .ref l ∧ y = .ref b ∧ SqL X.K H l xs ∧ SqL X.K H b zs ∧ xs.length + zs.length ≤ sizeLine ∧ ∀ p, H p = none → Q (.ref p) (upd H p (.lst (xs ++ zs)))) := by
  intro pins s σ H x y v u Q I rx ry h
  obtain ⟨l, b, xs, zs, rfl, rfl, hH, hB, hz, q⟩ := h
  cases rx
  cases ry
  obtain ⟨its, r, ⟨⟨cls, dd, data, sl⟩, n, ho, hc, hdd, hd⟩, z⟩ := I.list hH
  obtain ⟨its2, r2, ⟨⟨cls2, dd2, data2, sl2⟩, n2, ho2, hc2, hdd2, hd2⟩, z2⟩ := I.list hB
  simp only at hc hd hdd hc2 hd2 hdd2
  subst hc hd hdd hc2 hd2 hdd2
  have l1 := r.length
  have l2 := r2.length
  refine concat_meets ⟨_, ho, rfl⟩ ⟨_, ho2, rfl⟩ noFill_list_add seq_list_add PySem.F.slot_list_add PySem.F.entry_list_add (PySem.F.args_list_add_2 _ _) (list_addW l b its.toArray its2.toArray n n2 none none sl sl2 (by simp; omega)) ⟨ho, ho2, ?_⟩
  have ea : its.toArray ++ its2.toArray = (its ++ its2).toArray := by simp
  rw [ea]
  exact ⟨.ref _, _, I.lnew (t' := s.toks) (r.append r2) (by rw [List.length_append]; omega), rfl, q _ I.fresh⟩
theorem szl : sizeLine = sz := sizeLine_eq
theorem op_addG : OpR X (binaryOp .Add) (rG X.K (op2 .add) true) := by
  intro pins s σ H x y v u Q I rx ry h
  obtain ⟨P, d1, d2, d, pr, h1, h2, e, q⟩ := h
  cases d1 with
  | int i =>
    cases d2 with
    | int j =>
      cases e
      have e1 := h1.int; have e2 := h2.int
      subst e1 e2
      exact op_add pins s σ H _ _ v u Q I rx ry ⟨i, j, rfl, rfl, q _ H (Frm.refl _ _) (by simp only [DR]) fun _ => new_none (by simp)⟩
    | _ => cases e
  | str i =>
    cases d2 with
    | str j =>
      simp only [op2] at e
      obtain ⟨_, c, e⟩ := LP.R.bind_ok e
      cases e
      have c := of_decide_eq_true (LP.R.chk_ok c)
      have e1 := h1.str; have e2 := h2.str
      subst e1 e2
      exact op_add_str pins s σ H _ _ v u Q I rx ry ⟨i, j, rfl, rfl, by rw [szl]; exact c, q _ H (Frm.refl _ _) (by simp only [DR]) fun _ => new_none (by simp)⟩
    | _ => cases e
  | list i =>
    cases d2 with
    | list j =>
      simp only [op2] at e
      obtain ⟨_, c, e⟩ := LP.R.bind_ok e
      cases e
      have c := of_decide_eq_true (LP.R.chk_ok c)
      obtain ⟨a, xs, rfl, s1, r1⟩ := h1.list
      obtain ⟨b, ys, rfl, s2, r2⟩ := h2.list
      refine op_catL pins s σ H _ _ v u Q I rx ry ⟨a, b, xs, ys, rfl, rfl, s1, s2, by rw [r1.length, r2.length, szl]; exact c, fun p hp => ?_⟩
      have l := laid_list pr hp (r1.append r2)
      exact q _ _ (Frm.new hp) l.1 fun _ => l.2
    | _ => cases e
  | tuple i =>
    cases d2 with
    | tuple j =>
      simp only [op2] at e
      obtain ⟨_, c, e⟩ := LP.R.bind_ok e
      cases e
      have c := of_decide_eq_true (LP.R.chk_ok c)
      obtain ⟨a, xs, rfl, s1, r1⟩ := h1.tuple
      obtain ⟨b, ys, rfl, s2, r2⟩ := h2.tuple
      refine op_catA pins s σ H _ _ v u Q I rx ry ⟨a, b, xs, ys, rfl, rfl, s1, s2, by rw [r1.length, r2.length, szl]; exact c, fun hx => ?_, fun _ hy => ?_, fun _ _ p hp => ?_⟩
      · subst hx
        have : i = [] := by
          cases i with
          | nil => rfl
          | cons _ _ => have := r1.length; simp at this
        subst this
        exact q _ H (Frm.refl _ _) (by simp only [DR, List.nil_append]; exact ⟨b, ys, rfl, s2, r2⟩) fun _ => new_none (by simp)
      · subst hy
        have : j = [] := by
          cases j with
          | nil => rfl
          | cons _ _ => have := r2.length; simp at this
        subst this
        exact q _ H (Frm.refl _ _) (by simp only [DR, List.append_nil]; exact ⟨a, xs, rfl, s1, r1⟩) fun _ => new_none (by simp)
      · exact q _ _ (Frm.new hp) (laid_tup pr hp (r1.append r2)) fun _ => new_none (by simp)
    | _ => cases e
  | _ => cases e
/-- ints alone -/
theorem op_intG {f : Value → Value → Sem Value} {o : O2} {C : Int → Int → Prop} {g : Int → Int → Int} (ho : OpR X f (rI C fun i j => .int (g i j)))
    (hop : ∀ d1 d2 d, op2 o d1 d2 = .ok d → ∃ i j, d1 = .int i ∧ d2 = .int j ∧ C i j ∧ d = .int (g i j)) : OpR X f (rG X.K (op2 o) true) := by
  intro pins s σ H x y v u Q I rx ry h
  obtain ⟨P, d1, d2, d, pr, h1, h2, e, q⟩ := h
  obtain ⟨i, j, rfl, rfl, c, rfl⟩ := hop d1 d2 d e
  have e1 := h1.int; have e2 := h2.int
  subst e1 e2
  exact ho pins s σ H _ _ v u Q I rx ry ⟨i, j, rfl, rfl, c, q _ H (Frm.refl _ _) (by simp only [DR]) fun _ => new_none (by simp)⟩
theorem op_subG : OpR X (binaryOp .Sub) (rG X.K (op2 .sub) true) := by
  intro pins s σ H x y v u Q I rx ry h
  obtain ⟨P, d1, d2, d, pr, h1, h2, e, q⟩ := h
  cases d1 with
  | int i =>
    cases d2 with
    | int j =>
      cases e
      have e1 := h1.int; have e2 := h2.int
      subst e1 e2
      exact op_sub pins s σ H _ _ v u Q I rx ry ⟨i, j, rfl, rfl, q _ H (Frm.refl _ _) (by simp only [DR]) fun _ => new_none (by simp)⟩
    | _ => cases e
  | _ => cases e
theorem op_modG : OpR X (binaryOp .Mod) (rG X.K (op2 .mod) true) := op_intG op_mod fun d1 d2 d e => by
  cases d1 with
  | int i =>
    cases d2 with
    | int j =>
      simp only [op2] at e
      obtain ⟨_, c, e⟩ := LP.R.bind_ok e
      cases e
      have c := of_decide_eq_true (LP.R.chk_ok c)
      exact ⟨i, j, rfl, rfl, c, rfl⟩
    | _ => cases e
  | _ => cases e
theorem op_fdivG : OpR X (binaryOp .FloorDiv) (rG X.K (op2 .fdiv) true) := op_intG op_fdiv fun d1 d2 d e => by
  cases d1 with
  | int i =>
    cases d2 with
    | int j =>
      simp only [op2] at e
      obtain ⟨_, c, e⟩ := LP.R.bind_ok e
      cases e
      have c := of_decide_eq_true (LP.R.chk_ok c)
      exact ⟨i, j, rfl, rfl, c, rfl⟩
    | _ => cases e
  | _ => cases e
theorem op_powG : OpR X (binaryOp .Pow) (rG X.K (op2 .pow) true) := op_intG op_pow fun d1 d2 d e => by
  cases d1 with
  | int i =>
    cases d2 with
    | int j =>
      simp only [op2] at e
      obtain ⟨_, c, e⟩ := LP.R.bind_ok e
      cases e
      have c := of_decide_eq_true (LP.R.chk_ok c)
      refine ⟨i, j, rfl, rfl, ⟨c.1, by omega, ?_⟩, rfl⟩
      exact Nat.lt_trans c.2.2 (by decide)
    | _ => cases e
  | _ => cases e
theorem replicate_drs {K : Frg} {H : Hp} {P : List Addr} {ds : List D} {xs : List V} (h : DRs K H P ds xs) : ∀ n : Nat, DRs K H P (List.replicate n ds).flatten (List.replicate n xs).flatten
  | 0 => DRs.nil
  | n + 1 => by
    simp only [List.replicate_succ, List.flatten_cons]
    exact h.append (replicate_drs h n)
theorem op_mulG : OpR X (binaryOp .Mult) (rG X.K (op2 .mul) true) := by
  intro pins s σ H x y v u Q I rx ry h
  obtain ⟨P, d1, d2, d, pr, h1, h2, e, q⟩ := h
  cases d2 with
  | int j =>
    cases d1 with
    | int i =>
      simp only [op2] at e
      obtain ⟨_, c, e⟩ := LP.R.bind_ok e
      cases e
      have c := of_decide_eq_true (LP.R.chk_ok c)
      have e1 := h1.int; have e2 := h2.int
      subst e1 e2
      refine op_mul pins s σ H _ _ v u Q I rx ry ⟨i, j, rfl, rfl, ?_, q _ H (Frm.refl _ _) (by simp only [DR]) fun _ => new_none (by simp)⟩
      rcases c with c | c
      · exact .inl ⟨by omega, by omega⟩
      · exact .inr ⟨by omega, by omega⟩
    | tuple i =>
      simp only [op2] at e
      obtain ⟨_, c, e⟩ := LP.R.bind_ok e
      cases e
      have c := of_decide_eq_true (LP.R.chk_ok c)
      obtain ⟨a, xs, rfl, s1, r1⟩ := h1.tuple
      have e2 := h2.int
      subst e2
      refine op_repT pins s σ H _ _ v u Q I rx ry ⟨a, j, xs, rfl, rfl, s1, fun z => ?_, c.1, c.2.1, by rw [r1.length]; exact c.2.2.2, fun p hp => ?_⟩
      · subst z
        have := r1.length
        have c3 := c.2.2.1
        simp at this
        omega
      · exact q _ _ (Frm.new hp) (laid_tup pr hp (replicate_drs r1 j.toNat)) fun _ => new_none (by simp)
    | _ => cases e
  | _ => cases d1 <;> cases e
end
end LP
set_option autoImplicit false
set_option linter.all false
set_option maxRecDepth 100000
set_option maxHeartbeats 1000000
/-! LPSort: sorted of data, the empty tuple among them too. -/
namespace LP
open PySem PySem.Spec PyProof.Rows L2 PySem.W PySem.SeqAt

/-! ### the order -/
mutual
theorem dlt_eq : ∀ (x y : D), alike x y = true → dlt x y = dataLt x y
  | .none, y, h => by
    cases y with
    | none => simp only [dlt]; exact (lex_irrefl _).symm
    | _ => simp [alike] at h
  | .bool a, y, h => by
    cases y with
    | bool b => rw [dataLt_bool]; cases a <;> cases b <;> rfl
    | _ => simp [alike] at h
  | .int a, y, h => by
    cases y with
    | int b => rw [dataLt_int]; simp only [dlt]
    | _ => simp [alike] at h
  | .str a, y, h => by
    cases y with
    | str b => rw [dataLt_str]; simp only [dlt]
    | _ => simp [alike] at h
  | .list xs, y, h => by
    cases y with
    | list ys => rw [dataLt_list]; simp only [dlt]; exact dltAll_eq xs ys (by simpa only [alike] using h)
    | _ => simp [alike] at h
  | .tuple xs, y, h => by
    cases y with
    | tuple ys => rw [dataLt_tuple]; simp only [dlt]; exact dltAll_eq xs ys (by simpa only [alike] using h)
    | _ => simp [alike] at h
  | .dict _, y, h => by cases y <;> simp [alike] at h
theorem dltAll_eq : ∀ (xs ys : List D), alikeAll xs ys = true → dltAll xs ys = PyProof.Rows.lexLt itemOrd (keyToksAll xs) (keyToksAll ys)
  | [], [], _ => by simp only [dltAll]; exact (lex_irrefl _).symm
  | [], y :: ys, _ => by
    simp only [dltAll, toks_all_cons]
    simp only [keyToksAll]
    rw [lex_diff (O := itemOrd) (by simp)]
    simp [itemLt]
  | x :: xs, [], _ => by
    simp only [dltAll, toks_all_cons]
    simp only [keyToksAll]
    rw [lex_diff (O := itemOrd) (by simp)]
    simp [itemLt]
  | x :: xs, y :: ys, h => by
    obtain ⟨h1, h2⟩ := alike_all_cons h
    rw [dataLt_cons h1]
    simp only [dltAll]
    rw [dltAll_eq xs ys h2, dlt_eq x y h1]
end
theorem allAlk_all : ∀ {xs : List D}, allAlk xs = true → AllAlike xs
  | [], _ => fun d hd => by simp at hd
  | x :: xs, h => by
    simp only [allAlk, Bool.and_eq_true, List.all_eq_true] at h
    obtain ⟨⟨h1, h2⟩, h3⟩ := h
    have ih := allAlk_all h3
    intro d hd d' hd'
    rcases List.mem_cons.mp hd with e | m
    · rcases List.mem_cons.mp hd' with e' | m'
      · rw [e, e']; exact h1
      · rw [e]; exact (h2 d' m').1
    · rcases List.mem_cons.mp hd' with e' | m'
      · rw [e']; exact (h2 d m).2
      · exact ih d m d' m'

/-! ### insertion is the stable sort -/
abbrev dle : D → D → Bool := dataLe false (fun d : D => d)
theorem dle_eq (a b : D) : dle a b = !dataLt b a := rfl
theorem dle_total : TotalLe dle := sortLe_total (listOrd itemOrd) false fun d : D => keyToks d
theorem insF_mem {x : D} : ∀ {l : List D} {z : D}, z ∈ isort.insF x l ↔ z = x ∨ z ∈ l
  | [], z => by simp [isort.insF]
  | y :: ys, z => by
    simp only [isort.insF]
    split
    · simp only [List.mem_cons, insF_mem (l := ys)]
      constructor
      · rintro (h | h | h)
        · exact .inr (.inl h)
        · exact .inl h
        · exact .inr (.inr h)
      · rintro (h | h | h)
        · exact .inr (.inl h)
        · exact .inl h
        · exact .inr (.inr h)
    · simp
theorem isort_mem : ∀ {l : List D} {z : D}, z ∈ isort l ↔ z ∈ l
  | [], z => by simp [isort]
  | x :: xs, z => by simp only [isort, insF_mem, isort_mem (l := xs), List.mem_cons]
theorem insF_sorted {x : D} : ∀ {l : List D}, (∀ y ∈ l, alike x y = true ∧ alike y x = true) → l.Pairwise (fun a b => dle a b = true) → (isort.insF x l).Pairwise (fun a b => dle a b = true)
  | [], _, _ => by simp [isort.insF]
  | y :: ys, ha, h => by
    simp only [isort.insF]
    obtain ⟨h1, h2⟩ := List.pairwise_cons.mp h
    have hy := ha y (List.mem_cons_self ..)
    rw [dlt_eq y x hy.2]
    split
    · rename_i c
      refine List.pairwise_cons.mpr ⟨fun z hz => ?_, insF_sorted (fun z hz => ha z (List.mem_cons_of_mem _ hz)) h2⟩
      rcases insF_mem.mp hz with rfl | hz
      · have := dle_total.total y z
        rcases this with q | q
        · exact q
        · rw [dle_eq, c] at q; cases q
      · exact h1 z hz
    · rename_i c
      have c' : dle x y = true := by rw [dle_eq]; simpa using c
      refine List.pairwise_cons.mpr ⟨fun z hz => ?_, h⟩
      rcases List.mem_cons.mp hz with rfl | hz
      · exact c'
      · exact dle_total.trans x y z c' (h1 z hz)
theorem insF_filter {x : D} (c : D) : ∀ {l : List D}, (∀ y ∈ l, alike x y = true ∧ alike y x = true) → l.Pairwise (fun a b => dle a b = true) → (isort.insF x l).filter (sameRank dle c) = (x :: l).filter (sameRank dle c)
  | [], _, _ => by simp [isort.insF]
  | y :: ys, ha, h => by
    simp only [isort.insF]
    obtain ⟨h1, h2⟩ := List.pairwise_cons.mp h
    have hy := ha y (List.mem_cons_self ..)
    rw [dlt_eq y x hy.2]
    split
    · rename_i k
      have ih := insF_filter c (fun z hz => ha z (List.mem_cons_of_mem _ hz)) h2
      rw [List.filter_cons, ih]
      by_cases hy' : sameRank dle c y = true
      · have hx : sameRank dle c x = false := by
          cases q : sameRank dle c x with
          | false => rfl
          | true =>
            unfold sameRank at q hy'
            rw [Bool.and_eq_true] at q hy'
            have := dle_total.trans x c y q.2 hy'.1
            rw [dle_eq, k] at this
            cases this
        simp [List.filter_cons, hy', hx]
      · simp [List.filter_cons, hy']
    · rfl
theorem isort_sorted : ∀ {l : List D}, AllAlike l → (isort l).Pairwise (fun a b => dle a b = true) ∧ ∀ c, (isort l).filter (sameRank dle c) = l.filter (sameRank dle c)
  | [], _ => by simp [isort]
  | x :: xs, h => by
    have h' : AllAlike xs := fun d hd d' hd' => h d (List.mem_cons_of_mem _ hd) d' (List.mem_cons_of_mem _ hd')
    obtain ⟨i1, i2⟩ := isort_sorted h'
    have ha : ∀ y ∈ isort xs, alike x y = true ∧ alike y x = true := fun y hy => by
      have hy := isort_mem.mp hy
      exact ⟨h x (List.mem_cons_self ..) y (List.mem_cons_of_mem _ hy), h y (List.mem_cons_of_mem _ hy) x (List.mem_cons_self ..)⟩
    refine ⟨insF_sorted ha i1, fun c => ?_⟩
    simp only [isort]
    rw [insF_filter c ha i1, List.filter_cons, List.filter_cons, i2 c]
theorem isort_merge {l : List D} (h : AllAlike l) : isort l = l.mergeSort dle := sort_unique dle_total (isort_sorted h).1 (isort_sorted h).2

/-! ### tuples, the empty one among them -/
section
variable {prog : Program} {w : World} {A : Around} {E : Value → Shared → Prop} {s : Shared}
theorem call_tuple_lt {Q : Value → Shared → Prop} {l b : Addr} {items items2 : Array Value} {e r : Nat → Bool} (hl : s.heap.IsTuple l items) (hb : s.heap.IsTuple b items2)
    (he : ∀ j (h1 : j < items.size) (h2 : j < items2.size), EqAt A.in1 s items[j] items2[j] (e j)) (hr : ∀ j (h1 : j < items.size) (h2 : j < items2.size), e j = false → RcLt A.in1 s items[j] items2[j] (r j))
    (h : Q (.bool (firstLt e r (decide (items.size < items2.size)) (List.range (min items.size items2.size)))) s) : wpAny (model prog w) A (call (.builtin "tuple.__lt__") [.ref l, .ref b]) Q E s := by
  obtain ⟨⟨cls, dd, data, sl⟩, ho, hc, n, hd⟩ := id hl
  obtain ⟨⟨cls2, dd2, data2, sl2⟩, ho2, hc2, n2, hd2⟩ := id hb
  simp only at hc hd hc2 hd2
  subst hc hd hc2 hd2
  exact call_meets F.slot_tuple_lt ⟨_, ho, rfl⟩ F.entry_tuple_lt (F.args_tuple_lt_2 _ _) (tuple_ltAt l b items items2 n n2 dd dd2 sl sl2 e r) ⟨ho, ho2, he, hr, h⟩
theorem oneLt_tup {xs ys : List D} {a b : Value} {as bs : List Addr} {Q : Bool → Shared → Prop} (ra : Reads s.heap a (.tuple xs) as) (rb : Reads s.heap b (.tuple ys) bs) (hal : alikeAll xs ys = true)
    (hu : A.units + min (PyData.tuple xs).depth (PyData.tuple ys).depth < cLine) (hq : Q (dataLt (.tuple xs) (.tuple ys)) s) : wpAny (model prog w) A (oneLt' true a b) Q E s := by
  cases ra with
  | @tuple l o vs n _ as₁ h1 h2 h3 h4 =>
    cases rb with
    | @tuple l' o' vs' n' _ bs₁ k1 k2 k3 k4 =>
      have n1 : vs.size = xs.length := by simpa using ReadsAll.length _ _ _ h4
      have n2 : vs'.size = ys.length := by simpa using ReadsAll.length _ _ _ k4
      rw [dataLt_tuple, ← firstLt_toks xs ys hal, ← n1, ← n2] at hq
      rw [oneLt'_eq]
      simp only [if_true]
      refine wpAny_bind (wpAny_cRoomFor (room_here hu) ?_)
      refine wpAny_bind (wpAny_callSpecialIfBound?_slot (T := "tuple") ⟨_, h1, h2⟩ F.slot_tuple_lt (call_tuple_lt (e := pairEq xs ys) (r := fun j => dataLt (xs.getD j .none) (ys.getD j .none)) ⟨_, h1, h2, _, h3⟩ ⟨_, k1, k2, _, k3⟩ (fun j j1 j2 => ?_) (fun j j1 j2 hj => ?_) ?_))
      · have := eqAt_alikeAll xs ys A.in1 s vs.toList vs'.toList _ _ h4 k4 hal (room_in hu) j (by simpa using j1) (by simpa using j2)
        simpa using this
      · have := rcLt_alikeAll xs ys A.in1 s vs.toList vs'.toList _ _ h4 k4 hal (room_in hu) j (by simpa using j1) (by simpa using j2) hj
        simpa using this
      · exact wpAny_truthy_bool hq
/-- the first items of tuples, where there are some -/
theorem firsts_tup {M : Model} : ∀ (vs : List Value) (ds : List D) {Q : List (Option Value) → Shared → Prop}, EachIs (fun v d => ∃ xs as, d = PyData.tuple xs ∧ Reads s.heap v d as) vs ds →
    (∀ fs : List (Option Value), EachIs (fun f d => ∀ xs, d = PyData.tuple xs → (f.isSome = !xs.isEmpty)) fs ds → Q fs s) → wpAny M A (vs.mapM firstOfTuple') Q E s
  | [], _, _, .nil, h => by rw [List.mapM_nil]; exact wpAny_pure (h [] .nil)
  | v :: vs, d :: ds, Q, .cons ⟨xs, as, e1, r⟩ t, h => by
    subst e1
    rw [List.mapM_cons]
    cases r with
    | @tuple a o its n _ _ ho hc hd hr =>
      have hl := ReadsAll.length _ _ _ hr
      refine wpAny_bind ?_
      rw [kas_first_eq]
      refine wpAny_bind (Looks.here (show Looks M s.heap (typeOf (.ref a)) o.cls from (Looks.ld ho).andThen .now) ?_)
      rw [hc, if_neg (by first | decide | simp)]
      refine wpAny_bind (listItems_at ho hd (wpAny_pure ?_))
      refine wpAny_bind (firsts_tup vs ds (Q := fun bs s' => wpAny M A (pure (its[0]? :: bs)) Q E s') t fun fs hf => wpAny_pure (h _ (.cons (fun ys ey => ?_) hf)))
      cases ey
      cases xs with
      | nil =>
        have : its.size = 0 := by simpa using hl
        simp [this]
      | cons x xs =>
        have : 0 < its.size := by have : its.size = xs.length + 1 := by simpa using hl
                                  omega
        simp [this]
theorem SortsAt.tups {vs : List Value} {ds : List D} (e : EachIs (fun v d => ∃ as, Reads s.heap v d as) vs ds) (hal : AllAlike ds) (ht : ∀ d, d ∈ ds → ∃ xs, d = PyData.tuple xs) (he : PyData.tuple [] ∈ ds) (hu : ∀ d, d ∈ ds → A.units + d.depth < cLine) :
    SortsAt prog w A s (dataKind s.heap ds) vs := by
  have room : ∀ {d d' : PyData}, d ∈ ds → A.units + min d.depth d'.depth < cLine := fun {d d'} hd => Nat.lt_of_le_of_lt (Nat.add_le_add_left (Nat.min_le_left _ _) _) (hu d hd)
  have et : EachIs (fun v d => ∃ xs as, d = PyData.tuple xs ∧ Reads s.heap v d as) vs ds := (each_mem e).mono fun v d ⟨⟨as, r⟩, hd⟩ => by
    obtain ⟨xs, q⟩ := ht d hd
    exact ⟨xs, as, q, r⟩
  refine ⟨fun v hv => ?_, ?_⟩
  · obtain ⟨d, hd, as, r⟩ := e.left v hv
    exact ⟨_, dataKind_some hal hd r⟩
  · -- by the first one: empty, or not
    have key : ∀ (kd : SortKind), (kd = general' ∨ kd = oneType') → H.LtAt prog w A s (dataKind s.heap ds) kd := fun kd hk E x y a b Q ha hb hq => by
      obtain ⟨d, as, hd, ra, rfl⟩ := dataKind_inv ha
      obtain ⟨d', as', hd', rb, rfl⟩ := dataKind_inv hb
      obtain ⟨xs, rfl⟩ := ht d hd
      obtain ⟨ys, rfl⟩ := ht d' hd'
      have hq' : Q (dataLt (.tuple xs) (.tuple ys)) s := hq
      rcases hk with rfl | rfl
      · show wpAny (model prog w) A (oneLt' false x y) Q E s
        exact oneLt_alike (fun z => by cases z) ra rb (hal _ hd _ hd') (by simp) (room hd) hq'
      · rw [keyLt'_oneType]
        exact oneLt_tup ra rb (by simpa only [alike] using hal _ hd _ hd') (room hd) hq'
    cases ds with
    | nil => simp at he
    | cons d₀ ds₀ =>
      obtain ⟨x₀, hx₀⟩ := ht d₀ (List.mem_cons_self ..)
      have notall : ∀ fs : List (Option Value), EachIs (fun f d => ∀ xs, d = PyData.tuple xs → (f.isSome = !xs.isEmpty)) fs (d₀ :: ds₀) → fs.toArray.all (fun x => x.isSome) = false := fun fs hf => by
        cases q : fs.toArray.all (fun x => x.isSome) with
        | false => rfl
        | true =>
          simp only [List.all_toArray, List.all_eq_true] at q
          have : ∀ {fs : List (Option Value)} {l : List D}, EachIs (fun f d => ∀ xs, d = PyData.tuple xs → (f.isSome = !xs.isEmpty)) fs l → (∀ x ∈ fs, x.isSome = true) → PyData.tuple [] ∈ l → False := by
            intro fs l h
            induction h with
            | nil => intro _ z; simp at z
            | cons h1 t ih =>
              intro q z
              rcases List.mem_cons.mp z with z | z
              · have := h1 [] z.symm
                rw [q _ (List.mem_cons_self ..)] at this
                simp at this
              · exact ih (fun x hx => q x (List.mem_cons_of_mem _ hx)) z
          exact (this hf q he).elim
      refine ⟨if x₀ = [] then oneType' else general', key _ (by split; exact .inr rfl; exact .inl rfl), fun h2 E Q hq => ?_⟩
      rw [keyKind'_eq, List.mapM_toArray, map_eq_pure_bind]
      refine wpAny_bind (wpAny_bind (firsts_tup vs (d₀ :: ds₀) et fun fs hf => wpAny_pure ?_))
      rw [if_neg (by rw [notall fs hf]; exact Bool.false_ne_true)]
      cases hf with
      | cons h0 ht' =>
        rename_i f0 fs'
        have h0 := h0 x₀ hx₀
        have g0 : ((f0 :: fs').toArray[0]?.bind id).isSome = f0.isSome := by simp
        by_cases hx : x₀ = []
        · rw [if_pos hx] at hq
          rw [if_neg (by rw [g0, h0, hx]; simp)]
          rw [oneTypeOnly'_eq, List.mapM_toArray, map_eq_pure_bind]
          refine wpAny_bind (wpAny_bind (wpAny_bind (kas_mapM (r := Value.type "tuple") _ (fun v hv Q' hq => ?_) (wpAny_pure ?_))))
          · obtain ⟨d, hd, as, r⟩ := e.left v hv
            obtain ⟨xs, rfl⟩ := ht d hd
            exact (looks_reads r).here hq
          · have hall : ((List.map (fun _ => Value.type "tuple") vs).toArray.all fun x => x == Value.type "tuple") = true := by
              simp only [List.all_toArray, List.all_map, List.all_eq_true]
              intro _ _
              rfl
            cases vs with
            | nil => simp at h2
            | cons v vs =>
              have h0 : (List.map (fun _ => Value.type "tuple") (v :: vs)).toArray[0]? = some (Value.type "tuple") := by simp
              rw [h0]
              simp only [hall, if_true]
              exact wpAny_pure (wpAny_pure hq)
        · rw [if_neg hx] at hq
          have he : x₀.isEmpty = false := by
            cases x₀ with
            | nil => exact absurd rfl hx
            | cons _ _ => rfl
          rw [if_pos (by rw [g0, h0, he]; rfl)]
          exact wpAny_pure hq
end
end LP
set_option autoImplicit false
set_option linter.all false
set_option maxRecDepth 100000
set_option maxHeartbeats 1000000
/-! LPOps2: comparisons, subscripts, slices, calls of built-ins, by values. -/
namespace LP
open PySem PySem.Spec PyProof.Rows L2 PySem.SeqAt
section
variable {X : L2.Cx}
theorem depE : dep = 60 := rfl
theorem DB.reads {pins : List (Addr × Obj)} {σ : L2.St} {H : Hp} {s : Shared} {P : List Addr} {d : D} {x : V} {u : Value} (I : Inv X pins σ H s) (h : DB X.K H P d x) (r : RelV x u) : ∃ as, Reads s.heap u d as := Dp.reads I d x u h.dp r
/-- a truth value comes, the heap stays -/
theorem q_bool {K : Frg} {P : List Addr} {H : Hp} {b nw : Bool} {Q : VK} (q : ∀ z H', Frm [] H H' → DR K H' P (.bool b) z → (nw = true → NewL K P H H' (.bool b) z) → Q z H') : Q (.bl b) H :=
  q _ H (Frm.refl _ _) (by simp only [DR]) fun _ => new_none (by simp)
theorem op_eqG (hu : X.A.units + 64 < cLine) : OpR X (compareOp .Eq) (rG X.K (op2 .eq) true) := by
  intro pins s σ H x y v u Q I rx ry h
  obtain ⟨P, d1, d2, d, pr, h1, h2, e, q⟩ := h
  simp only [op2] at e
  obtain ⟨_, c, e⟩ := LP.R.bind_ok e
  cases e
  have c := of_decide_eq_true (LP.R.chk_ok c)
  obtain ⟨as, r1⟩ := h1.reads I rx
  obtain ⟨bs, r2⟩ := h2.reads I ry
  exact eq_plain r1 r2 h1.plain h2.plain (by have := depE; omega) ⟨.bl _, H, I, rfl, q_bool q⟩
theorem op_neG (hu : X.A.units + 64 < cLine) : OpR X (compareOp .NotEq) (rG X.K (op2 .ne) true) := by
  intro pins s σ H x y v u Q I rx ry h
  obtain ⟨P, d1, d2, d, pr, h1, h2, e, q⟩ := h
  simp only [op2] at e
  obtain ⟨_, c, e⟩ := LP.R.bind_ok e
  cases e
  have c := of_decide_eq_true (LP.R.chk_ok c)
  obtain ⟨as, r1⟩ := h1.reads I rx
  obtain ⟨bs, r2⟩ := h2.reads I ry
  exact ne_plain r1 r2 h1.plain h2.plain (by have := depE; omega) ⟨.bl _, H, I, rfl, q_bool q⟩
theorem op_ltG (hu : X.A.units + 64 < cLine) : OpR X (compareOp .Lt) (rG X.K (op2 .lt) true) := by
  intro pins s σ H x y v u Q I rx ry h
  obtain ⟨P, d1, d2, d, pr, h1, h2, e, q⟩ := h
  simp only [op2] at e
  obtain ⟨_, c, e⟩ := LP.R.bind_ok e
  cases e
  have c := LP.R.chk_ok c
  simp only [Bool.and_eq_true, decide_eq_true_eq] at c
  obtain ⟨⟨c1, c2⟩, c3⟩ := c
  obtain ⟨as, r1⟩ := h1.reads I rx
  obtain ⟨bs, r2⟩ := h2.reads I ry
  rw [dlt_eq _ _ c1] at q
  have hn : d1 ≠ .none := fun z => by rw [z] at c2; cases c2
  exact PySem.W.rcLt_alike d1 d2 X.A s v u as bs r1 r2 c1 hn (by have := depE; omega) X.prog X.w _ _ ⟨.bl _, H, I, rfl, q_bool q⟩
theorem op_cmpG {f : Value → Value → Sem Value} {o : O2} {g : Int → Int → Bool} (ho : OpR X f (rI0 fun i j => .bl (g i j)))
    (hop : ∀ d1 d2 d, op2 o d1 d2 = .ok d → ∃ i j, d1 = .int i ∧ d2 = .int j ∧ d = .bool (g i j)) : OpR X f (rG X.K (op2 o) true) := by
  intro pins s σ H x y v u Q I rx ry h
  obtain ⟨P, d1, d2, d, pr, h1, h2, e, q⟩ := h
  obtain ⟨i, j, rfl, rfl, rfl⟩ := hop d1 d2 d e
  have e1 := h1.int; have e2 := h2.int
  subst e1 e2
  exact ho pins s σ H _ _ v u Q I rx ry ⟨i, j, rfl, rfl, q_bool q⟩
theorem op_leG : OpR X (compareOp .LtE) (rG X.K (op2 .le) true) := op_cmpG op_le fun d1 d2 d e => by
  cases d1 with
  | int i => cases d2 with
    | int j => cases e; exact ⟨i, j, rfl, rfl, rfl⟩
    | _ => cases e
  | _ => cases e
theorem op_gtG : OpR X (compareOp .Gt) (rG X.K (op2 .gt) true) := op_cmpG op_gt fun d1 d2 d e => by
  cases d1 with
  | int i => cases d2 with
    | int j => cases e; exact ⟨i, j, rfl, rfl, rfl⟩
    | _ => cases e
  | _ => cases e
theorem op_geG : OpR X (compareOp .GtE) (rG X.K (op2 .ge) true) := op_cmpG op_ge fun d1 d2 d e => by
  cases d1 with
  | int i => cases d2 with
    | int j => cases e; exact ⟨i, j, rfl, rfl, rfl⟩
    | _ => cases e
  | _ => cases e
theorem seq_cases {a d2 : D} {xs : List D} (h : itemsOf d2 = .ok xs) : d2 = .list xs ∨ d2 = .tuple xs := by
  cases d2 with
  | list c => cases h; exact .inl rfl
  | tuple c => cases h; exact .inr rfl
  | _ => cases h
theorem sign_of {x : Str} (h : x.length = 1) : x = ⟨#[x.cps.getD 0 0]⟩ := by
  obtain ⟨c⟩ := x
  obtain ⟨l⟩ := c
  match l, h with
  | [a], _ => rfl
theorem op_inG (hu : X.A.units + 64 < cLine) : OpR X (compareOp .In) (rG X.K (op2 .isin) true) := by
  intro pins s σ H x y v u Q I rx ry h
  obtain ⟨P, d1, d2, d, pr, h1, h2, e, q⟩ := h
  have gen : (∃ xs, itemsOf d2 = .ok xs ∧ d1.depth ≤ dep ∧ d = .bool (xs.any fun z => PyData.eqv z d1)) → wpAny (model X.prog X.w) X.A (compareOp .In v u) (EP X pins σ Q) X.xe s := fun ⟨xs, e1, e2, e3⟩ => by
    subst e3
    obtain ⟨as, r1⟩ := h1.reads I rx
    obtain ⟨bs, r2⟩ := h2.reads I ry
    have hp := h2.plain
    rcases seq_cases (a := d1) e1 with rfl | rfl
    · exact in_list_data r2 r1 (by simpa only [PyData.plain] using hp) h1.plain (by have := depE; omega) ⟨.bl _, H, I, rfl, q_bool q⟩
    · exact in_tuple_data r2 r1 (by simpa only [PyData.plain] using hp) h1.plain (by have := depE; omega) ⟨.bl _, H, I, rfl, q_bool q⟩
  cases d2 with
  | str b =>
    cases d1 with
    | str a =>
      simp only [op2] at e
      obtain ⟨_, c, e⟩ := LP.R.bind_ok e
      cases e
      have c := of_decide_eq_true (LP.R.chk_ok c)
      have e1 := h1.str; have e2 := h2.str
      subst e1 e2
      have ea := sign_of c
      refine op_in_sign pins s σ H _ _ v u Q I rx ry ⟨a.cps.getD 0 0, b, by rw [← ea], rfl, ?_⟩
      have : decide (a.cps.getD 0 0 ∈ b.cps.toList) = b.cps.toList.contains (a.cps.getD 0 0) := by simp [List.contains_iff_mem]
      rw [this]
      exact q_bool q
    | _ => simp only [op2, itemsOf] at e; cases e
  | list c =>
    refine gen ?_
    cases d1 <;> (simp only [op2] at e; obtain ⟨xs, e1, e⟩ := LP.R.bind_ok e; obtain ⟨_, c2, e⟩ := LP.R.bind_ok e; cases e; exact ⟨xs, e1, of_decide_eq_true (LP.R.chk_ok c2), rfl⟩)
  | tuple c =>
    refine gen ?_
    cases d1 <;> (simp only [op2] at e; obtain ⟨xs, e1, e⟩ := LP.R.bind_ok e; obtain ⟨_, c2, e⟩ := LP.R.bind_ok e; cases e; exact ⟨xs, e1, of_decide_eq_true (LP.R.chk_ok c2), rfl⟩)
  | _ => cases d1 <;> (simp only [op2, itemsOf] at e; cases e)
theorem op_notinG (hu : X.A.units + 64 < cLine) : OpR X (compareOp .NotIn) (rG X.K (op2 .notin) true) := by
  intro pins s σ H x y v u Q I rx ry h
  obtain ⟨P, d1, d2, d, pr, h1, h2, e, q⟩ := h
  have gen : (∃ xs, itemsOf d2 = .ok xs ∧ d1.depth ≤ dep ∧ d = .bool (!xs.any fun z => PyData.eqv z d1)) → wpAny (model X.prog X.w) X.A (compareOp .NotIn v u) (EP X pins σ Q) X.xe s := fun ⟨xs, e1, e2, e3⟩ => by
    subst e3
    obtain ⟨as, r1⟩ := h1.reads I rx
    obtain ⟨bs, r2⟩ := h2.reads I ry
    have hp := h2.plain
    rcases seq_cases (a := d1) e1 with rfl | rfl
    · exact notIn_list_data r2 r1 (by simpa only [PyData.plain] using hp) h1.plain (by have := depE; omega) ⟨.bl _, H, I, rfl, q_bool q⟩
    · exact notIn_tuple_data r2 r1 (by simpa only [PyData.plain] using hp) h1.plain (by have := depE; omega) ⟨.bl _, H, I, rfl, q_bool q⟩
  cases d2 with
  | str b =>
    cases d1 with
    | str a =>
      simp only [op2] at e
      obtain ⟨_, c, e⟩ := LP.R.bind_ok e
      cases e
      have c := of_decide_eq_true (LP.R.chk_ok c)
      have e1 := h1.str; have e2 := h2.str
      subst e1 e2
      have ea := sign_of c
      refine op_notIn_sign pins s σ H _ _ v u Q I rx ry ⟨a.cps.getD 0 0, b, by rw [← ea], rfl, ?_⟩
      have : (!decide (a.cps.getD 0 0 ∈ b.cps.toList)) = !b.cps.toList.contains (a.cps.getD 0 0) := by simp [List.contains_iff_mem]
      rw [this]
      exact q_bool q
    | _ => simp only [op2, itemsOf] at e; cases e
  | list c =>
    refine gen ?_
    cases d1 <;> (simp only [op2] at e; obtain ⟨xs, e1, e⟩ := LP.R.bind_ok e; obtain ⟨_, c2, e⟩ := LP.R.bind_ok e; cases e; exact ⟨xs, e1, of_decide_eq_true (LP.R.chk_ok c2), rfl⟩)
  | tuple c =>
    refine gen ?_
    cases d1 <;> (simp only [op2] at e; obtain ⟨xs, e1, e⟩ := LP.R.bind_ok e; obtain ⟨_, c2, e⟩ := LP.R.bind_ok e; cases e; exact ⟨xs, e1, of_decide_eq_true (LP.R.chk_ok c2), rfl⟩)
  | _ => cases d1 <;> (simp only [op2, itemsOf] at e; cases e)
/-! ### subscripts -/
theorem place_ix (n : Nat) (i : Int) : place n i = ixN n i := by
  unfold place ixN
  by_cases h : 0 ≤ i
  · rw [if_pos h, if_pos h]
  · rw [if_neg h, if_neg h]
    by_cases h2 : 0 ≤ i + n
    · rw [if_pos h2, if_pos (by omega)]
    · rw [if_neg h2, if_neg (by omega)]
theorem ix_G : IxR X (rG X.K (op2 .idx) false) := by
  intro value slice pins s σ H x y v u Q I rx ry h hs
  obtain ⟨P, d1, d2, d, pr, h1, h2, e, q⟩ := h
  have fin : ∀ {c : List D} {xs : List V} {i : Int}, DRs X.K H P c xs → (do let k ← R.ofO (place c.length i); R.ofO c[k]?) = R.ok d → ∃ z, atI xs i = some z ∧ Q z H := fun {c xs i} r e => by
    obtain ⟨k, e1, e⟩ := LP.R.bind_ok e
    have e1 := LP.R.ofO_ok e1
    have e2 := LP.R.ofO_ok e
    obtain ⟨z, e3, e4⟩ := r.get e2
    refine ⟨z, ?_, q z H (Frm.refl _ _) e4 fun z => by cases z⟩
    unfold atI
    rw [r.length, ← place_ix, e1]
    exact e3
  cases d2 with
  | int i =>
    have e2 := h2.int
    subst e2
    cases d1 with
    | list c =>
      obtain ⟨a, xs, rfl, s1, r1⟩ := h1.list
      obtain ⟨z, e3, qz⟩ := fin r1 e
      exact ix_seq value slice pins s σ H _ _ v u Q I rx ry (.inl ⟨a, xs, i, z, rfl, rfl, s1, e3, qz⟩) hs
    | tuple c =>
      obtain ⟨a, xs, rfl, s1, r1⟩ := h1.tuple
      obtain ⟨z, e3, qz⟩ := fin r1 e
      exact ix_seq value slice pins s σ H _ _ v u Q I rx ry (.inr (.inl ⟨a, xs, i, z, rfl, rfl, s1, e3, qz⟩)) hs
    | _ => cases e
  | _ => cases d1 <;> cases e
/-! ### calls of built-ins -/
theorem call_lenG : CallR X (.builtin "len") (rG1L X.K (op1 .len) true) := by
  intro pins s σ H xs us Q I r h
  obtain ⟨x, rfl, P, d1, d, pr, h1, e, q⟩ := h
  cases d1 with
  | str z =>
    simp only [op1] at e
    obtain ⟨_, c, e⟩ := LP.R.bind_ok e
    cases e
    have c := of_decide_eq_true (LP.R.chk_ok c)
    have e1 := h1.str
    subst e1
    exact call_len_str pins s σ H _ us Q I r ⟨z, rfl, by rw [szl]; exact c, q _ H (Frm.refl _ _) (by simp only [DR]) fun _ => new_none (by simp)⟩
  | list c =>
    cases e
    obtain ⟨a, ys, rfl, s1, r1⟩ := h1.list
    exact call_len_seq pins s σ H _ us Q I r ⟨a, ys, rfl, .inl s1, q _ H (Frm.refl _ _) (by simp only [DR, r1.length]) fun _ => new_none (by simp)⟩
  | tuple c =>
    cases e
    obtain ⟨a, ys, rfl, s1, r1⟩ := h1.tuple
    exact call_len_seq pins s σ H _ us Q I r ⟨a, ys, rfl, .inr s1, q _ H (Frm.refl _ _) (by simp only [DR, r1.length]) fun _ => new_none (by simp)⟩
  | _ => cases e
theorem call_tupG : CallR X (.type "tuple") (rG1L X.K (op1 .tup) true) := by
  intro pins s σ H xs us Q I r h
  obtain ⟨x, rfl, P, d1, d, pr, h1, e, q⟩ := h
  cases d1 with
  | list c =>
    cases e
    obtain ⟨a, ys, rfl, s1, r1⟩ := h1.list
    exact call_tuple_of pins s σ H _ us Q I r ⟨a, ys, rfl, .inl ⟨s1, fun l hl => q _ _ (Frm.new hl) (laid_tup pr hl r1) fun _ => new_none (by simp)⟩⟩
  | tuple c =>
    cases e
    obtain ⟨a, ys, rfl, s1, r1⟩ := h1.tuple
    exact call_tuple_of pins s σ H _ us Q I r ⟨a, ys, rfl, .inr ⟨s1, q _ H (Frm.refl _ _) (by simp only [DR]; exact ⟨a, ys, rfl, s1, r1⟩) fun _ => new_none (by simp)⟩⟩
  | _ => cases e
theorem call_lstG : CallR X (.type "list") (rG1L X.K (op1 .lst) true) := by
  intro pins s σ H xs us Q I r h
  obtain ⟨x, rfl, P, d1, d, pr, h1, e, q⟩ := h
  cases d1 with
  | list c =>
    cases e
    obtain ⟨a, ys, rfl, s1, r1⟩ := h1.list
    exact call_list_of pins s σ H _ us Q I r ⟨a, ys, rfl, .inl s1, fun l hl => let z := laid_list pr hl r1; q _ _ (Frm.new hl) z.1 fun _ => z.2⟩
  | tuple c =>
    cases e
    obtain ⟨a, ys, rfl, s1, r1⟩ := h1.tuple
    exact call_list_of pins s σ H _ us Q I r ⟨a, ys, rfl, .inr s1, fun l hl => let z := laid_list pr hl r1; q _ _ (Frm.new hl) z.1 fun _ => z.2⟩
  | _ => cases e
theorem bools_of {K : Frg} {H : Hp} {P : List Addr} : ∀ {c : List D} {xs : List V} {bs : List Bool}, DRs K H P c xs → allM asBool c = .ok bs → xs = bs.map V.bl
  | [], _, _, h, e => by simp only [DRs] at h; cases e; exact h
  | d :: c, xs, bs, h, e => by
    simp only [DRs] at h
    obtain ⟨y, ys, rfl, h1, h2⟩ := h
    simp only [allM] at e
    obtain ⟨b, e1, e⟩ := LP.R.bind_ok e
    obtain ⟨bs', e2, e⟩ := LP.R.bind_ok e
    cases e
    rw [bools_of h2 e2]
    cases d <;> cases e1
    simp only [DR] at h1
    rw [h1]; rfl
theorem ints_of {K : Frg} {H : Hp} {P : List Addr} : ∀ {c : List D} {xs : List V} {bs : List Int}, DRs K H P c xs → allM asInt c = .ok bs → xs = bs.map V.int
  | [], _, _, h, e => by simp only [DRs] at h; cases e; exact h
  | d :: c, xs, bs, h, e => by
    simp only [DRs] at h
    obtain ⟨y, ys, rfl, h1, h2⟩ := h
    simp only [allM] at e
    obtain ⟨b, e1, e⟩ := LP.R.bind_ok e
    obtain ⟨bs', e2, e⟩ := LP.R.bind_ok e
    cases e
    rw [ints_of h2 e2]
    cases d <;> cases e1
    simp only [DR] at h1
    rw [h1]; rfl
theorem call_allG (hc : X.calm = true) : CallR X (.builtin "all") (rG1L X.K (op1 .all) true) := by
  intro pins s σ H xs us Q I r h
  obtain ⟨x, rfl, P, d1, d, pr, h1, e, q⟩ := h
  cases d1 with
  | list c =>
    simp only [op1] at e
    obtain ⟨bs, e1, e⟩ := LP.R.bind_ok e
    cases e
    obtain ⟨a, ys, rfl, s1, r1⟩ := h1.list
    rw [bools_of r1 e1] at s1
    exact cr_all hc pins s σ H _ us Q I r ⟨a, bs, rfl, s1, q_bool q⟩
  | _ => cases e
theorem call_anyG (hc : X.calm = true) : CallR X (.builtin "any") (rG1L X.K (op1 .any) true) := by
  intro pins s σ H xs us Q I r h
  obtain ⟨x, rfl, P, d1, d, pr, h1, e, q⟩ := h
  cases d1 with
  | list c =>
    simp only [op1] at e
    obtain ⟨bs, e1, e⟩ := LP.R.bind_ok e
    cases e
    obtain ⟨a, ys, rfl, s1, r1⟩ := h1.list
    rw [bools_of r1 e1] at s1
    exact cr_any hc pins s σ H _ us Q I r ⟨a, bs, rfl, s1, q_bool q⟩
  | _ => cases e
theorem call_sumG (hc : X.calm = true) : CallR X (.builtin "sum") (rG1L X.K (op1 .sum) true) := by
  intro pins s σ H xs us Q I r h
  obtain ⟨x, rfl, P, d1, d, pr, h1, e, q⟩ := h
  cases d1 with
  | list c =>
    simp only [op1] at e
    obtain ⟨bs, e1, e⟩ := LP.R.bind_ok e
    cases e
    obtain ⟨a, ys, rfl, s1, r1⟩ := h1.list
    rw [ints_of r1 e1] at s1
    exact cr_sum hc pins s σ H _ us Q I r ⟨a, bs, rfl, s1, q _ H (Frm.refl _ _) (by simp only [DR]) fun _ => new_none (by simp)⟩
  | _ => cases e
theorem call_intG : CallR X (.type "int") (rG1L X.K (op1 .int) true) := by
  intro pins s σ H xs us Q I r h
  obtain ⟨x, rfl, P, d1, d, pr, h1, e, q⟩ := h
  cases d1 with
  | int i =>
    cases e
    have e1 := h1.int
    subst e1
    exact call_int1 pins s σ H _ us Q I r (.inl ⟨i, rfl, q _ H (Frm.refl _ _) (by simp only [DR]) fun _ => new_none (by simp)⟩)
  | bool b =>
    cases e
    have e1 := h1.bool
    subst e1
    exact call_int1 pins s σ H _ us Q I r (.inr ⟨b, rfl, q _ H (Frm.refl _ _) (by simp only [DR]) fun _ => new_none (by simp)⟩)
  | _ => cases e
theorem call_absG : CallR X (.builtin "abs") (rG1L X.K (op1 .abs) true) := by
  intro pins s σ H xs us Q I r h
  obtain ⟨x, rfl, P, d1, d, pr, h1, e, q⟩ := h
  cases d1 with
  | int i =>
    cases e
    have e1 := h1.int
    subst e1
    exact call_abs pins s σ H _ us Q I r ⟨i, rfl, q _ H (Frm.refl _ _) (by simp only [DR]) fun _ => new_none (by simp)⟩
  | _ => cases e
theorem un_negG : UnR X (unaryOp .USub) (rG1 X.K (op1 .neg) true) := by
  intro pins s σ H x v Q I r h
  obtain ⟨P, d1, d, pr, h1, e, q⟩ := h
  cases d1 with
  | int i =>
    cases e
    have e1 := h1.int
    subst e1
    exact un_neg pins s σ H _ v Q I r ⟨i, rfl, q _ H (Frm.refl _ _) (by simp only [DR]) fun _ => new_none (by simp)⟩
  | _ => cases e
/-! ### sorted -/
/-- the values of a list, each with its datum -/
theorem each_of {K : Frg} {H : Hp} {P : List Addr} : ∀ {c : List D} {xs : List V} {us : List Value}, DRs K H P c xs → Vals xs us → PySem.W.EachIs (fun v d => ∃ x, RelV x v ∧ DR K H P d x) us c
  | [], _, _, h, r => by
    simp only [DRs] at h; subst h; cases r; exact .nil
  | d :: c, xs, us, h, r => by
    simp only [DRs] at h
    obtain ⟨y, ys, rfl, h1, h2⟩ := h
    cases r with
    | cons r1 r2 => exact .cons ⟨y, r1, h1⟩ (each_of h2 r2)
theorem of_each {K : Frg} {H : Hp} {P : List Addr} : ∀ {us : List Value} {c : List D}, PySem.W.EachIs (fun v d => ∃ x, RelV x v ∧ DR K H P d x) us c → ∃ xs, Vals xs us ∧ DRs K H P c xs
  | _, _, .nil => ⟨[], .nil, DRs.nil⟩
  | _, _, .cons ⟨x, r, h⟩ t => by
    obtain ⟨xs, r', h'⟩ := of_each t
    refine ⟨x :: xs, .cons r r', ?_⟩
    simp only [DRs]
    exact ⟨x, xs, rfl, h, h'⟩
theorem sorts_at {prog : Program} {w : World} {A : Around} {s : Shared} {vs : List Value} {ds : List D} (e : PySem.W.EachIs (fun v d => ∃ as, Reads s.heap v d as) vs ds) (hal : PySem.W.AllAlike ds) (hn : ∀ d ∈ ds, d ≠ .none) (hu : ∀ d, d ∈ ds → A.units + d.depth < cLine) :
    PySem.W.SortsAt prog w A s (PySem.W.dataKind s.heap ds) vs := by
  by_cases ht : ∃ xs, PyData.tuple xs ∈ ds
  · obtain ⟨xs, ht⟩ := ht
    have all : ∀ d, d ∈ ds → ∃ ys, d = PyData.tuple ys := fun d hd => by
      have := hal d hd _ ht
      cases d with
      | tuple ys => exact ⟨ys, rfl⟩
      | _ => simp [PySem.W.alike] at this
    by_cases he : PyData.tuple [] ∈ ds
    · exact SortsAt.tups e hal all he hu
    · refine PySem.W.SortsAt.data e hal (.inl fun d hd => ?_) hu
      obtain ⟨ys, rfl⟩ := all d hd
      cases ys with
      | nil => exact absurd hd he
      | cons y ys => exact ⟨y, ys, rfl⟩
  · exact PySem.W.SortsAt.data e hal (.inr fun d hd => ⟨hn d hd, fun xs z => ht ⟨xs, z ▸ hd⟩⟩) hu
theorem map_id' (c : List D) : c.map (fun d : D => d) = c := List.map_id' c
theorem small_depth {c : List D} (h : small c = true) {d : D} (hd : d ∈ c) : d.depth ≤ dep := by
  unfold small at h
  rw [List.all_eq_true] at h
  exact of_decide_eq_true (h d hd)
theorem call_srtG (hu : X.A.units + 200 < cLine) : CallR X (.builtin "sorted") (rG1L X.K (op1 .srt) true) := by
  intro pins s σ H xs us Q I r h
  obtain ⟨x, rfl, P, d1, d, pr, h1, e, q⟩ := h
  cases d1 with
  | list c =>
    simp only [op1, srtD] at e
    obtain ⟨_, k, e⟩ := LP.R.bind_ok e
    cases e
    have k := LP.R.chk_ok k
    simp only [Bool.and_eq_true, List.all_eq_true] at k
    obtain ⟨⟨k1, k2⟩, k3⟩ := k
    have hal := allAlk_all k1
    obtain ⟨a, ys, rfl, s1, r1⟩ := h1.list
    rw [Vals.ref1 r]
    obtain ⟨its, rv, pl, hz⟩ := I.list s1
    have hlen : its.length = c.length := by rw [← rv.length, r1.length]
    obtain ⟨as, ra⟩ := Dp.readsAll I c ys its r1.dp rv
    have er : PySem.W.EachIs (fun v d => ∃ as, Reads s.heap v d as) its c := PySem.W.readsAll_each (fun d : D => d) (by rw [map_id']; exact ra)
    have er' : PySem.W.EachIs (fun v b => ∃ as, Reads (PySem.W.sortingHeap (PySem.W.copyHeap s.heap its) (s.heap.objs.size + 1) its) v b as) its c := er.mono fun _ _ ⟨as, r⟩ => ⟨as, PyProof.Rows.Reads.keeps (fun _ _ => PySem.W.sorting_copy_old) r⟩
    have hE := each_of r1 rv
    refine PySem.W.sorted_vals (κ := PySem.W.dataKind (PySem.W.sortingHeap (PySem.W.copyHeap s.heap its) (s.heap.objs.size + 1) its) c) pl.isList (sorts_at (s := { s with heap := PySem.W.sortingHeap (PySem.W.copyHeap s.heap its) (s.heap.objs.size + 1) its }) er' hal (fun d hd z => by have := k2 d hd; rw [z] at this; cases this) (fun d hd => ?_)) (by rw [hlen, ← r1.length]; exact hz) ?_
    · have := small_depth k3 hd
      have := depE
      show X.A.units + 1 + 1 + d.depth < cLine
      omega
    have hs := PySem.W.sortVals_data (enc := fun d : D => d) false hE er' (by rw [map_id']; exact hal)
    rw [map_id'] at hs
    obtain ⟨zs, rz, dz⟩ := of_each hs
    rw [← isort_merge hal] at dz
    have ho := PySem.W.sortVals_length (κ := PySem.W.dataKind (PySem.W.sortingHeap (PySem.W.copyHeap s.heap its) (s.heap.objs.size + 1) its) c) false (rfl : its.length = its.length)
    generalize PySem.W.sortVals (PySem.W.dataKind (PySem.W.sortingHeap (PySem.W.copyHeap s.heap its) (s.heap.objs.size + 1) its) c) false its its = out at rz ho ⊢
    obtain ⟨cc, hc⟩ := sortedAll_at s.heap its out.toArray
    have hn : H (s.heap.objs.size + 1) = none := I.hok.fresh (Nat.le_succ _)
    have hzl : zs.length ≤ sizeLine := by rw [rz.length, ho, ← rv.length]; exact hz
    have l := laid_list pr hn dz
    refine ⟨.ref (s.heap.objs.size + 1), upd H (s.heap.objs.size + 1) (.lst zs), I.laid (t' := s.toks) (fun b u e => sortedAll_old e) (Nat.le_succ _) ⟨hzl, out, cc, rz, hc⟩, rfl, q _ _ (Frm.new hn) l.1 fun _ => l.2⟩
  | _ => cases e
end
end LP
set_option autoImplicit false
set_option linter.all false
set_option maxRecDepth 100000
set_option maxHeartbeats 1000000
/-! LPExp: expressions, one by one. -/
namespace LP
open PySem PySem.Spec PyProof.Rows L2
section
variable {X : L2.Cx} {nr : Nat} {G : Gx} {fr : Nat → Bool} {pos : Pos}
/-- a value that needs nothing of the heap -/
theorem e_const {ex : Expr} {e : E} {d : D} {v : V} (h : PE X ex (tC v)) (ev : ∀ vs cs d' cs', evE G e vs cs = .ok (d', cs') → d' = d ∧ cs' = cs) (dr : ∀ H P, DR X.K H P d v) (hf : fresh fr e = false) : PE X ex (tE X.K nr G fr e) :=
  PE.up (PE.weak h fun σ H Q q => by
    obtain ⟨P, W, ps, vs, cs, d', cs', R, e1, q⟩ := q
    obtain ⟨rfl, rfl⟩ := ev _ _ _ _ e1
    exact q v H ⟨Aft.refl R, .inl (dr H P), fun _ => dr H P, fun z => by rw [hf] at z; cases z⟩)
theorem e_int {i : Int} {j : Nat} : PE X (.Constant (.int i) j pos) (tE X.K nr G fr (.lit (.int i))) :=
  e_const (d := .int i) pe_int (fun _ _ _ _ e => by simp only [evE] at e; cases e; exact ⟨rfl, rfl⟩) (fun _ _ => by simp only [DR]) rfl
theorem e_bool {i : Bool} {j : Nat} : PE X (.Constant (.bool i) j pos) (tE X.K nr G fr (.lit (.bool i))) :=
  e_const (d := .bool i) pe_bl (fun _ _ _ _ e => by simp only [evE] at e; cases e; exact ⟨rfl, rfl⟩) (fun _ _ => by simp only [DR]) rfl
theorem e_none {j : Nat} : PE X (.Constant .none j pos) (tE X.K nr G fr (.lit .none)) :=
  e_const (d := .none) pe_non (fun _ _ _ _ e => by simp only [evE] at e; cases e; exact ⟨rfl, rfl⟩) (fun _ _ => by simp only [DR]) rfl
theorem e_str {x : Str} {j : Nat} : PE X (.Constant (.str x) j pos) (tE X.K nr G fr (.lit (.str x))) :=
  e_const (d := .str x) pe_str (fun _ _ _ _ e => by simp only [evE] at e; cases e; exact ⟨rfl, rfl⟩) (fun _ _ => by simp only [DR]) rfl
theorem e_gl {x : Str} {k : Nat} {d : D} {v : V} (h : PE X (.Name x pos) (tC v)) (hk : G.consts k = some d) (dr : ∀ H P, DR X.K H P d v) : PE X (.Name x pos) (tE X.K nr G fr (.gl k)) :=
  e_const (d := d) h (fun _ _ _ _ e => by simp only [evE, hk] at e; cases e; exact ⟨rfl, rfl⟩) dr rfl
theorem e_var {x : Str} {i : Nat} (h : PE X (.Name x pos) (tVar i)) : PE X (.Name x pos) (tE X.K nr G fr (.var i)) :=
  PE.up (PE.weak h fun σ H Q q => by
    obtain ⟨P, W, ps, vs, cs, d, cs', R, e, q⟩ := q
    simp only [evE] at e
    obtain ⟨d', e1, e⟩ := LP.R.bind_ok e
    cases e
    unfold getV at e1
    split at e1
    · rename_i d2 hv
      cases e1
      obtain ⟨v, e2, dr⟩ := R.val i _ hv
      exact ⟨v, e2, q v H ⟨Aft.refl R, .inl dr, fun _ => dr, fun z => by cases z⟩⟩
    · cases e1)
theorem e_pk {x : Str} {i : Nat} (h : PE X (.Name x pos) (tVar i)) : PE X (.Name x pos) (tE X.K nr G fr (.pk i)) :=
  PE.up (PE.weak h fun σ H Q q => by
    obtain ⟨P, W, ps, vs, cs, d, cs', R, e, q⟩ := q
    simp only [evE] at e
    obtain ⟨k, e1, e⟩ := LP.R.bind_ok e
    obtain ⟨c, e2, e⟩ := LP.R.bind_ok e
    cases e
    have e2 := LP.R.ofO_ok e2
    unfold getC at e1
    split at e1
    · rename_i d2 hv
      cases e1
      obtain ⟨p, e3, e4⟩ := R.var i k hv
      obtain ⟨p', c', xs, e5, e6, e7, e8, e9⟩ := R.cell k (.inr ⟨i, hv⟩)
      rw [e3] at e5; cases e5
      rw [e2] at e6; cases e6
      exact ⟨.ref p, e4, q _ H ⟨Aft.refl R, .inr ⟨p, c, xs, rfl, rfl, e8, e9⟩, fun z => (by cases z), fun z => (by cases z)⟩⟩
    · cases e1)
/-- rows of a known length -/
def rowLen : E → Nat
  | .cons _ r => rowLen r + 1
  | _ => 0
def isRow : E → Bool
  | .nil => true
  | .cons _ r => isRow r
  | _ => false
theorem row_len : ∀ {r : E} {vs : Vs} {cs cs' : Cs} {ds : List D}, isRow r = true → evE G r vs cs = .ok (.tuple ds, cs') → ds.length = rowLen r
  | .nil, vs, cs, cs', ds, _, e => by simp only [evE] at e; cases e; rfl
  | .cons a r, vs, cs, cs', ds, h, e => by
    simp only [evE] at e
    obtain ⟨⟨d1, cs1⟩, e1, e⟩ := LP.R.bind_ok e
    obtain ⟨⟨t, cs2⟩, e2, e⟩ := LP.R.bind_ok e
    cases t with
    | tuple ds2 =>
      cases e
      simp only [List.length_cons, rowLen]
      rw [row_len (by simpa only [isRow] using h) e2]
    | _ => cases e
theorem e_tup {es : List Expr} {r : E} {k : Nat} (h : PA X es (tR X.K nr G r)) (hr : isRow r = true) (hl : rowLen r ≤ 1000) (hw : lends r = false) : PE X (.Tuple es k pos) (tE X.K nr G fr (.tup r)) :=
  PE.up (PE.weak (pe_tup h) fun σ H Q q => by
    obtain ⟨P, W, ps, vs, cs, d, cs', R, e, q⟩ := q
    simp only [evE] at e
    -- a row gives a tuple
    have ht : ∃ ds, d = .tuple ds := by
      cases r with
      | nil => simp only [evE] at e; cases e; exact ⟨[], rfl⟩
      | cons a r =>
        simp only [evE] at e
        obtain ⟨⟨d1, cs1⟩, e1, e⟩ := LP.R.bind_ok e
        obtain ⟨⟨t, cs2⟩, e2, e⟩ := LP.R.bind_ok e
        cases t with
        | tuple ds2 => cases e; exact ⟨_, rfl⟩
        | _ => cases e
      | _ => cases hr
    obtain ⟨ds, rfl⟩ := ht
    refine ⟨P, W, ps, vs, cs, ds, cs', R, e, fun xs H' p => ?_⟩
    have dr := p.own hw
    refine ⟨by rw [dr.length, row_len hr e]; exact Nat.le_trans hl (by decide), fun a ha => q _ _ ?_⟩
    have l := laid_tup p.aft.rv.pr ha dr
    exact ⟨p.aft.step (Frm.new ha), .inl l, fun _ => l, fun z => by cases z⟩)
theorem e_lst {es : List Expr} {r : E} (h : PA X es (tR X.K nr G r)) (hr : isRow r = true) (hl : rowLen r ≤ 1000) (hw : lends r = false) : PE X (.List es pos) (tE X.K nr G fr (.lst r)) :=
  PE.up (PE.weak (pe_lst h) fun σ H Q q => by
    obtain ⟨P, W, ps, vs, cs, d, cs', R, e, q⟩ := q
    simp only [evE] at e
    obtain ⟨⟨t, cs1⟩, e1, e⟩ := LP.R.bind_ok e
    cases t with
    | tuple ds =>
      cases e
      refine ⟨P, W, ps, vs, cs, ds, _, R, e1, fun xs H' p => ?_⟩
      have dr := p.own hw
      refine ⟨by rw [dr.length, row_len hr e1]; exact Nat.le_trans hl (by decide), fun a ha => q _ _ ?_⟩
      have l := laid_list p.aft.rv.pr ha dr
      exact ⟨p.aft.step (Frm.new ha), .inl l.1, fun _ => l.1, fun _ => l.2.later p.aft.frm R.sub p.aft.rv.pr⟩
    | _ => cases e)
variable {a b c : Expr} {e1 e2 e3 : E}
theorem e_bin {op : Operator} {o : O2} (ho : OpR X (binaryOp op) (rG X.K (op2 o) true)) (ha : PE X a (tE X.K nr G fr e1)) (hb : PE X b (tE X.K nr G fr e2)) (wf : (owned e1 || quiet e2) = true) : PE X (.BinOp a op b pos) (tE X.K nr G fr (.o2 o e1 e2)) :=
  PE.up (PE.weak (pe_op ho ha hb) (o2_weak wf fun _ => rfl))
theorem e_cmp {op : CmpOp} {o : O2} (ho : OpR X (compareOp op) (rG X.K (op2 o) true)) (ha : PE X a (tE X.K nr G fr e1)) (hb : PE X b (tE X.K nr G fr e2)) (wf : (owned e1 || quiet e2) = true) (hm : behindInMarks op b = false) :
    PE X (.Compare a [op] [b] pos) (tE X.K nr G fr (.o2 o e1 e2)) :=
  PE.up (PE.weak (pe_cmpR ho ha hb hm) (o2_weak wf fun _ => rfl))
def cmpO : O2 → Bool
  | .eq | .ne | .lt | .le | .gt | .ge | .isin | .notin => true
  | _ => false
theorem cmp_bool {o : O2} {d1 d2 d : D} (h : cmpO o = true) (e : op2 o d1 d2 = .ok d) : ∃ b, d = .bool b := by
  cases o <;> first | cases h | skip
  all_goals (cases d1 <;> cases d2 <;> simp only [op2, itemsOf] at e <;>
    first
    | (cases e; exact ⟨_, rfl⟩)
    | (obtain ⟨_, _, e⟩ := LP.R.bind_ok e; cases e; exact ⟨_, rfl⟩)
    | (obtain ⟨_, _, e⟩ := LP.R.bind_ok e; obtain ⟨_, _, e⟩ := LP.R.bind_ok e; cases e; exact ⟨_, rfl⟩)
    | cases e)
theorem t_cmp {op : CmpOp} {o : O2} (ho : OpR X (compareOp op) (rG X.K (op2 o) true)) (ha : PE X a (tE X.K nr G fr e1)) (hb : PE X b (tE X.K nr G fr e2)) (wf : (owned e1 || quiet e2) = true) (hm : behindInMarks op b = false) (hc : cmpO o = true) :
    PT X (.Compare a [op] [b] pos) (tT X.K nr G (.o2 o e1 e2)) :=
  PT.weak (pt_cmpR ho ha hb hm) fun σ H Q q => by
    obtain ⟨P, W, ps, vs, cs, d, cs', k, R, ev, tr, q⟩ := q
    have hd : ∃ b, d = .bool b := by
      simp only [evE] at ev
      obtain ⟨⟨d1, cs1⟩, ev1, ev⟩ := LP.R.bind_ok ev
      obtain ⟨⟨d2, cs2⟩, ev2, ev⟩ := LP.R.bind_ok ev
      obtain ⟨r, ev3, ev⟩ := LP.R.bind_ok ev
      cases ev
      exact cmp_bool hc ev3
    obtain ⟨b', rfl⟩ := hd
    cases tr
    exact o2_weak (fr := fr) wf (fun _ => rfl) σ H _ ⟨P, W, ps, vs, cs, _, cs', R, ev, fun x H' p => ⟨_, p.db.bool, q H' p.aft⟩⟩
theorem e_ix (ha : PE X a (tE X.K nr G fr e1)) (hb : PE X b (tE X.K nr G fr e2)) (wf : (owned e1 || quiet e2) = true) (hs : PlainIx b) : PE X (.Subscript a b pos) (tE X.K nr G fr (.o2 .idx e1 e2)) :=
  PE.up (PE.weak (pe_ix ix_G ha hb hs) (o2_weak wf fun z => by cases z))
theorem e_neg (ha : PE X a (tE X.K nr G fr e1)) : PE X (.UnaryOp .USub a pos) (tE X.K nr G fr (.o1 .neg e1)) :=
  PE.up (PE.weak (pe_un un_negG ha) (o1_weak fun _ => rfl))
theorem e_not (ha : PE X a (tE X.K nr G fr e1)) : PE X (.UnaryOp .Not a pos) (tE X.K nr G fr (.o1 .nt e1)) :=
  PE.up (PE.weak (pe_notT ha) fun σ H Q q => by
    obtain ⟨P, W, ps, vs, cs, d, cs', R, ev, q⟩ := q
    simp only [evE] at ev
    obtain ⟨⟨d1, cs1⟩, ev1, ev⟩ := LP.R.bind_ok ev
    obtain ⟨r, ev3, ev⟩ := LP.R.bind_ok ev
    cases ev
    simp only [op1] at ev3
    obtain ⟨k, ev4, ev3⟩ := LP.R.bind_ok ev3
    cases ev3
    refine ⟨P, W, ps, vs, cs, d1, _, R, ev1, fun x H' p => ⟨k, tru_v p.db ev4, q _ H' ⟨p.aft, ?_, ?_, fun z => by cases z⟩⟩⟩
    · exact .inl (by simp only [DR])
    · exact fun _ => by simp only [DR])
theorem t_not (ha : PT X a (tT X.K nr G e1)) : PT X (.UnaryOp .Not a pos) (tT X.K nr G (.o1 .nt e1)) :=
  PT.weak (pt_not ha) fun σ H Q q => by
    obtain ⟨P, W, ps, vs, cs, d, cs', b, R, ev, tr, q⟩ := q
    simp only [evE] at ev
    obtain ⟨⟨d1, cs1⟩, ev1, ev⟩ := LP.R.bind_ok ev
    obtain ⟨r, ev3, ev⟩ := LP.R.bind_ok ev
    cases ev
    simp only [op1] at ev3
    obtain ⟨k, ev4, ev3⟩ := LP.R.bind_ok ev3
    cases ev3
    cases tr
    exact ⟨P, W, ps, vs, cs, d1, _, k, R, ev1, ev4, fun H' p => q H' p⟩
theorem isN_eq {K : Frg} {H : Hp} {P : List Addr} {d : D} {x : V} (h : DB K H P d x) : decide (x = .non) = !notNone d := by
  cases d with
  | none => rw [h.none]; rfl
  | bool _ => rw [h.bool]; rfl
  | int _ => rw [h.int]; rfl
  | str _ => rw [h.str]; rfl
  | list _ => obtain ⟨a, xs, rfl, _⟩ := h.list; rfl
  | tuple _ => obtain ⟨a, xs, rfl, _⟩ := h.tuple; rfl
  | dict _ =>
    rcases h with h | ⟨_, _, _, e, _⟩
    · simp only [DR] at h
    · cases e
theorem e_isN {j : Nat} {pos' : Pos} (ha : PE X a (tE X.K nr G fr e1)) : PE X (.Compare a [.Is] [.Constant .none j pos'] pos) (tE X.K nr G fr (.o1 .isN e1)) :=
  PE.up (PE.weak (pe_cmp (pc_isN ha)) fun σ H Q q => by
    obtain ⟨P, W, ps, vs, cs, d, cs', R, ev, q⟩ := q
    simp only [evE] at ev
    obtain ⟨⟨d1, cs1⟩, ev1, ev⟩ := LP.R.bind_ok ev
    obtain ⟨r, ev3, ev⟩ := LP.R.bind_ok ev
    cases ev
    cases ev3
    refine ⟨P, W, ps, vs, cs, d1, _, R, ev1, fun x H' p => ?_⟩
    show Q (.bl (decide (x = .non))) H'
    rw [isN_eq p.db]
    exact q _ H' ⟨p.aft, .inl (by simp only [DR]), fun _ => by simp only [DR], fun z => by cases z⟩)
theorem e_notN {j : Nat} {pos' : Pos} (ha : PE X a (tE X.K nr G fr e1)) : PE X (.Compare a [.IsNot] [.Constant .none j pos'] pos) (tE X.K nr G fr (.o1 .notN e1)) :=
  PE.up (PE.weak (pe_cmp (pc_notN ha)) fun σ H Q q => by
    obtain ⟨P, W, ps, vs, cs, d, cs', R, ev, q⟩ := q
    simp only [evE] at ev
    obtain ⟨⟨d1, cs1⟩, ev1, ev⟩ := LP.R.bind_ok ev
    obtain ⟨r, ev3, ev⟩ := LP.R.bind_ok ev
    cases ev
    cases ev3
    refine ⟨P, W, ps, vs, cs, d1, _, R, ev1, fun x H' p => ?_⟩
    show Q (.bl (!decide (x = .non))) H'
    rw [isN_eq p.db, Bool.not_not]
    exact q _ H' ⟨p.aft, .inl (by simp only [DR]), fun _ => by simp only [DR], fun z => by cases z⟩)
theorem tB_of {e : E} {σ : L2.St} {H : Hp} {Q : Bool → Hp → Prop} (hb : ∀ vs cs d cs', evE G e vs cs = .ok (d, cs') → ∃ b, d = .bool b) (h : tT X.K nr G e σ H Q) : tB (tE X.K nr G fr e) σ H Q := by
  obtain ⟨P, W, ps, vs, cs, d, cs', b, R, ev, tr, q⟩ := h
  obtain ⟨b', rfl⟩ := hb _ _ _ _ ev
  cases tr
  exact ⟨P, W, ps, vs, cs, _, cs', R, ev, fun x H' p => ⟨_, p.db.bool, q H' p.aft⟩⟩
theorem wp_tB {ex : Expr} {t : TE} {op : CmpOp} {b : Expr} (h : PC X op a b t) (hm : behindInMarks op b = false) : PT X (.Compare a [op] [b] pos) (tB t) := pt_cmp h hm
theorem t_isN {j : Nat} {pos' : Pos} (ha : PE X a (tE X.K nr G fr e1)) : PT X (.Compare a [.Is] [.Constant .none j pos'] pos) (tT X.K nr G (.o1 .isN e1)) :=
  PT.weak (pt_cmp (pc_isN ha)) fun σ H Q q => by
    obtain ⟨P, W, ps, vs, cs, d, cs', b, R, ev, tr, q⟩ := q
    simp only [evE] at ev
    obtain ⟨⟨d1, cs1⟩, ev1, ev⟩ := LP.R.bind_ok ev
    obtain ⟨r, ev3, ev⟩ := LP.R.bind_ok ev
    cases ev
    cases ev3
    cases tr
    refine ⟨P, W, ps, vs, cs, d1, _, R, ev1, fun x H' p => ?_⟩
    show ∃ c, V.bl (decide (x = .non)) = .bl c ∧ Q c H'
    rw [isN_eq p.db]
    exact ⟨_, rfl, q H' p.aft⟩
theorem t_notN {j : Nat} {pos' : Pos} (ha : PE X a (tE X.K nr G fr e1)) : PT X (.Compare a [.IsNot] [.Constant .none j pos'] pos) (tT X.K nr G (.o1 .notN e1)) :=
  PT.weak (pt_cmp (pc_notN ha)) fun σ H Q q => by
    obtain ⟨P, W, ps, vs, cs, d, cs', b, R, ev, tr, q⟩ := q
    simp only [evE] at ev
    obtain ⟨⟨d1, cs1⟩, ev1, ev⟩ := LP.R.bind_ok ev
    obtain ⟨r, ev3, ev⟩ := LP.R.bind_ok ev
    cases ev
    cases ev3
    cases tr
    refine ⟨P, W, ps, vs, cs, d1, _, R, ev1, fun x H' p => ?_⟩
    show ∃ c, V.bl (!decide (x = .non)) = .bl c ∧ Q c H'
    rw [isN_eq p.db, Bool.not_not]
    exact ⟨_, rfl, q H' p.aft⟩
/-! ### and, or, a if c else b -/
variable {rest : List Expr}
theorem e_and (ha : PE X a (tE X.K nr G fr e1)) (hb : PE X (.BoolOp .And (b :: rest) pos) (tE X.K nr G fr e2)) : PE X (.BoolOp .And (a :: b :: rest) pos) (tE X.K nr G fr (.and e1 e2)) :=
  PE.up (PE.weak (pe_andT ha hb) fun σ H Q q => by
    obtain ⟨P, W, ps, vs, cs, d, cs', R, ev, q⟩ := q
    simp only [evE] at ev
    obtain ⟨⟨d1, cs1⟩, ev1, ev⟩ := LP.R.bind_ok ev
    obtain ⟨k, ev2, ev⟩ := LP.R.bind_ok ev
    refine ⟨P, W, ps, vs, cs, d1, cs1, R, ev1, fun x H1 p1 => ⟨k, tru_v p1.db ev2, ?_⟩⟩
    cases k with
    | true =>
      rw [if_pos rfl]
      refine ⟨P, W, ps, vs, cs1, d, cs', p1.aft.rv, ev, fun y H2 p2 => q y H2 ⟨(p1.aft.trans p2.aft), p2.db, fun z => ?_, fun z => by cases z⟩⟩
      simp only [owned, Bool.and_eq_true] at z
      exact p2.own z.2
    | false =>
      rw [if_neg Bool.false_ne_true]
      cases ev
      refine q x H1 ⟨p1.aft.qu (fun z => ?_), p1.db, fun z => ?_, fun z => by cases z⟩
      · simp only [quiet, Bool.and_eq_true] at z; exact z.1
      · simp only [owned, Bool.and_eq_true] at z; exact p1.own z.1)
theorem e_or (ha : PE X a (tE X.K nr G fr e1)) (hb : PE X (.BoolOp .Or (b :: rest) pos) (tE X.K nr G fr e2)) : PE X (.BoolOp .Or (a :: b :: rest) pos) (tE X.K nr G fr (.or e1 e2)) :=
  PE.up (PE.weak (pe_orT ha hb) fun σ H Q q => by
    obtain ⟨P, W, ps, vs, cs, d, cs', R, ev, q⟩ := q
    simp only [evE] at ev
    obtain ⟨⟨d1, cs1⟩, ev1, ev⟩ := LP.R.bind_ok ev
    obtain ⟨k, ev2, ev⟩ := LP.R.bind_ok ev
    refine ⟨P, W, ps, vs, cs, d1, cs1, R, ev1, fun x H1 p1 => ⟨k, tru_v p1.db ev2, ?_⟩⟩
    cases k with
    | false =>
      rw [if_neg Bool.false_ne_true]
      refine ⟨P, W, ps, vs, cs1, d, cs', p1.aft.rv, ev, fun y H2 p2 => q y H2 ⟨(p1.aft.trans p2.aft), p2.db, fun z => ?_, fun z => ?_⟩⟩
      · simp only [owned, Bool.and_eq_true] at z
        exact p2.own z.2
      · simp only [fresh, Bool.and_eq_true] at z
        exact (p2.new z.2).later p1.aft.frm R.sub p1.aft.rv.pr
    | true =>
      rw [if_pos rfl]
      cases ev
      refine q x H1 ⟨p1.aft.qu (fun z => ?_), p1.db, fun z => ?_, fun z => ?_⟩
      · simp only [quiet, Bool.and_eq_true] at z; exact z.1
      · simp only [owned, Bool.and_eq_true] at z; exact p1.own z.1
      · simp only [fresh, Bool.and_eq_true] at z; exact p1.new z.1)
theorem e_one {op : BoolOp} {e : E} (ha : PE X a (tE X.K nr G fr e)) : PE X (.BoolOp op [a] pos) (tE X.K nr G fr e) := pe_one ha
theorem tru_and {e1 e2 : E} {vs : Vs} {cs cs' : Cs} {d : D} {b : Bool} (ev : evE G (.and e1 e2) vs cs = .ok (d, cs')) (tr : tru d = .ok b) :
    ∃ d1 cs1 k, evE G e1 vs cs = .ok (d1, cs1) ∧ tru d1 = .ok k ∧ (if k = true then evE G e2 vs cs1 = .ok (d, cs') else b = false ∧ cs' = cs1) := by
  simp only [evE] at ev
  obtain ⟨⟨d1, cs1⟩, ev1, ev⟩ := LP.R.bind_ok ev
  obtain ⟨k, ev2, ev⟩ := LP.R.bind_ok ev
  refine ⟨d1, cs1, k, ev1, ev2, ?_⟩
  cases k with
  | true => exact ev
  | false =>
    rw [if_neg Bool.false_ne_true]
    simp only [Bool.false_eq_true, if_false] at ev
    cases ev
    rw [ev2] at tr
    cases tr
    exact ⟨rfl, rfl⟩
theorem t_and (ha : PT X a (tT X.K nr G e1)) (hb : PW X (.BoolOp .And (b :: rest) pos) (tT X.K nr G e2)) : PW X (.BoolOp .And (a :: b :: rest) pos) (tT X.K nr G (.and e1 e2)) := by
  have h := pw_and ha hb
  refine ⟨fun wh pins s σ H Q I q => h.run wh pins s σ H Q I ?_⟩
  obtain ⟨P, W, ps, vs, cs, d, cs', k2, R, ev, tr, q⟩ := q
  obtain ⟨d1, cs1, k, ev1, tr1, ev2⟩ := tru_and ev tr
  refine ⟨P, W, ps, vs, cs, d1, cs1, k, R, ev1, tr1, fun H1 a1 => ?_⟩
  cases k with
  | true =>
    rw [if_pos rfl] at ev2 ⊢
    exact ⟨P, W, ps, vs, cs1, d, cs', k2, a1.rv, ev2, tr, fun H2 a2 => q H2 (a1.trans a2)⟩
  | false =>
    rw [if_neg Bool.false_ne_true] at ev2 ⊢
    obtain ⟨rfl, rfl⟩ := ev2
    exact q H1 (a1.qu fun z => by simp only [quiet, Bool.and_eq_true] at z; exact z.1)
theorem t_or (ha : PT X a (tT X.K nr G e1)) (hb : PW X (.BoolOp .Or (b :: rest) pos) (tT X.K nr G e2)) : PW X (.BoolOp .Or (a :: b :: rest) pos) (tT X.K nr G (.or e1 e2)) := by
  have h := pw_or ha hb
  refine ⟨fun wh pins s σ H Q I q => h.run wh pins s σ H Q I ?_⟩
  obtain ⟨P, W, ps, vs, cs, d, cs', k2, R, ev, tr, q⟩ := q
  simp only [evE] at ev
  obtain ⟨⟨d1, cs1⟩, ev1, ev⟩ := LP.R.bind_ok ev
  obtain ⟨k, tr1, ev⟩ := LP.R.bind_ok ev
  refine ⟨P, W, ps, vs, cs, d1, cs1, k, R, ev1, tr1, fun H1 a1 => ?_⟩
  cases k with
  | false =>
    rw [if_neg Bool.false_ne_true]
    simp only [Bool.false_eq_true, if_false] at ev
    exact ⟨P, W, ps, vs, cs1, d, cs', k2, a1.rv, ev, tr, fun H2 a2 => q H2 (a1.trans a2)⟩
  | true =>
    rw [if_pos rfl]
    simp only [if_true] at ev
    cases ev
    rw [tr1] at tr
    cases tr
    exact q H1 (a1.qu fun z => by simp only [quiet, Bool.and_eq_true] at z; exact z.1)
theorem t_one {op : BoolOp} {e : E} (ha : PT X a (tT X.K nr G e)) : PW X (.BoolOp op [a] pos) (tT X.K nr G e) := by
  cases op with
  | And => exact pw_and1 ha
  | Or => exact pw_or1 ha
theorem e_ife (hc : PT X c (tT X.K nr G e3)) (ha : PE X a (tE X.K nr G fr e1)) (hb : PE X b (tE X.K nr G fr e2)) : PE X (.IfExp c a b pos) (tE X.K nr G fr (.ife e3 e1 e2)) :=
  PE.up (PE.weak (pe_ifExp hc ha hb) fun σ H Q q => by
    obtain ⟨P, W, ps, vs, cs, d, cs', R, ev, q⟩ := q
    simp only [evE] at ev
    obtain ⟨⟨d1, cs1⟩, ev1, ev⟩ := LP.R.bind_ok ev
    obtain ⟨k, tr1, ev⟩ := LP.R.bind_ok ev
    refine ⟨P, W, ps, vs, cs, d1, cs1, k, R, ev1, tr1, fun H1 a1 => ?_⟩
    cases k with
    | true =>
      rw [if_pos rfl]
      simp only [if_true] at ev
      refine ⟨P, W, ps, vs, cs1, d, cs', a1.rv, ev, fun y H2 p2 => q y H2 ⟨(a1.trans p2.aft).qu fun z => ?_, p2.db, fun z => ?_, fun z => ?_⟩⟩
      · simp only [quiet, Bool.and_eq_true] at z ⊢; exact z.1
      · simp only [owned, Bool.and_eq_true] at z; exact p2.own z.1
      · simp only [fresh, Bool.and_eq_true] at z
        exact (p2.new z.1).later a1.frm R.sub a1.rv.pr
    | false =>
      rw [if_neg Bool.false_ne_true]
      simp only [Bool.false_eq_true, if_false] at ev
      refine ⟨P, W, ps, vs, cs1, d, cs', a1.rv, ev, fun y H2 p2 => q y H2 ⟨(a1.trans p2.aft).qu fun z => ?_, p2.db, fun z => ?_, fun z => ?_⟩⟩
      · simp only [quiet, Bool.and_eq_true] at z ⊢; exact ⟨z.1.1, z.2⟩
      · simp only [owned, Bool.and_eq_true] at z; exact p2.own z.2
      · simp only [fresh, Bool.and_eq_true] at z
        exact (p2.new z.2).later a1.frm R.sub a1.rv.pr)
end
end LP
set_option autoImplicit false
set_option linter.all false
set_option maxRecDepth 100000
set_option maxHeartbeats 1000000
/-! LPCall: defs called. -/
namespace LP
open PySem PySem.Spec PyProof.Rows L2

/-- the cells at ps hold cs -/
def CellsR (K : Frg) (H : Hp) (P ps : List Addr) (cs : Cs) : Prop := ∀ (k : Nat) (p : Addr), ps[k]? = some p → ∃ c xs, cs[k]? = some c ∧ H p = some (.lst xs) ∧ DRs K H P c xs
structure PstF (K : Frg) (P ps : List Addr) (H : Hp) (nw : Bool) (cs' : Cs) (d : D) (x : V) (H' : Hp) : Prop where
  dr : DR K H' P d x
  cel : CellsR K H' P ps cs'
  len : cs'.length = ps.length
  frm : Frm ps H H'
  new : nw = true → NewL K P H H' d x
/-- a def's promise: what the interpreter tells comes -/
def spF (K : Frg) (cl : Nat → List D → Cs → R (D × Cs)) (fr : Nat → Bool) (f nr np : Nat) : Sp := fun xs H Q _ =>
  ∃ P ps ys ds cs d cs', xs = ps.map V.ref ++ ys ∧ ps.length = nr ∧ nr + ys.length = np ∧ ps.Nodup ∧ (∀ p ∈ ps, p ∈ P) ∧ Prot P H ∧ CellsR K H P ps cs ∧ cs.length = nr ∧ DRs K H P ds ys ∧ cl f ds cs = .ok (d, cs') ∧
    ∀ x H', PstF K P ps H (fr f) cs' d x H' → Q x H'
theorem spF_len {K : Frg} {cl : Nat → List D → Cs → R (D × Cs)} {fr : Nat → Bool} {f nr np : Nat} {xs : List V} {H : Hp} {Q : VK} {E : XK} (h : spF K cl fr f nr np xs H Q E) : xs.length = np := by
  obtain ⟨P, ps, ys, ds, cs, d, cs', rfl, h1, h2, _⟩ := h
  rw [List.length_append, List.length_map, h1, h2]

/-- what is known of a def where X stands -/
structure FnF (X : L2.Cx) (G : Gx) (fr : Nat → Bool) (n : Nat) (x : Str) (f nr : Nat) (ps : List Str) : Prop where
  ex : ∃ a fd, X.mg x = some (.ref a) ∧ PySem.W.keepIn X.K (.ref a) = true ∧ Binds X.K fd ps [] ∧ FnOk X.prog X.w X.K X.mg X.base CX0 n a fd ps (spF X.K G.cl fr f nr ps.length)

section
variable {K : Frg} {P W : List Addr} {nr : Nat} {ps : List Addr} {vs : Vs} {cs : Cs} {σ : L2.St} {H H' : Hp}
/-- a protected place that is none of the cells is written -/
theorem RV.other (R : RV K P W nr ps vs cs σ H) {p : Addr} (hp : p ∈ P) (hw : p ∉ W) (f : Frm [p] H H') (mu : Mut (H' p)) : RV K P W nr ps vs cs σ H' := by
  have hs : ∀ q ∈ [p], q ∈ P := fun q hq => by rw [List.mem_singleton.mp hq]; exact hp
  refine ⟨R.len, fun i d e => ?_, R.var, fun k hk => ?_, R.inj, R.nd, R.sub, fun q hq => ?_, R.cl⟩
  · obtain ⟨x, e1, h⟩ := R.val i d e
    exact ⟨x, e1, h.frm hs R.pr f⟩
  · obtain ⟨q, c, xs, e1, e2, e3, e4, e5⟩ := R.cell k hk
    refine ⟨q, c, xs, e1, e2, e3, f _ _ (fun z => ?_) e4, e5.frm hs R.pr f⟩
    rw [List.mem_singleton.mp z] at e3
    exact hw e3
  · by_cases e : q = p
    · rw [e]; exact mu
    · obtain ⟨o, e1⟩ := R.pr.some hq
      have := R.pr q hq
      rw [e1] at this
      rw [f q o (by simpa using e) e1]
      exact this
/-- the cell k is written -/
theorem RV.write (R : RV K P W nr ps vs cs σ H) {p : Addr} {k : Nat} {c : List D} {xs : List V} (hk : ps[k]? = some p) (hp : p ∈ P) (f : Frm [p] H H') (hx : H' p = some (.lst xs)) (hd : DRs K H' P c xs) : RV K P W nr ps vs (cs.set k c) σ H' := by
  have hs : ∀ q ∈ [p], q ∈ P := fun q hq => by rw [List.mem_singleton.mp hq]; exact hp
  have hkl : k < cs.length := by rw [← R.cl]; exact (List.getElem?_eq_some_iff.mp hk).1
  refine ⟨R.len, fun i d e => ?_, R.var, fun j hj => ?_, R.inj, R.nd, R.sub, fun q hq => ?_, by rw [List.length_set]; exact R.cl⟩
  · obtain ⟨x, e1, h⟩ := R.val i d e
    exact ⟨x, e1, h.frm hs R.pr f⟩
  · obtain ⟨q, c', ys, e1, e2, e3, e4, e5⟩ := R.cell j hj
    by_cases e : j = k
    · subst e
      rw [hk] at e1; cases e1
      exact ⟨p, c, xs, hk, List.getElem?_set_self hkl, e3, hx, hd⟩
    · have hne : q ≠ p := fun z => e (by
        rw [z] at e1
        obtain ⟨h1, e1⟩ := List.getElem?_eq_some_iff.mp e1
        obtain ⟨h2, e2⟩ := List.getElem?_eq_some_iff.mp hk
        exact (List.getElem_inj R.nd).mp (e1.trans e2.symm))
      exact ⟨q, c', ys, e1, by rw [List.getElem?_set_ne (Ne.symm e)]; exact e2, e3, f _ _ (by simpa using hne) e4, e5.frm hs R.pr f⟩
  · by_cases e : q = p
    · rw [e, hx]; exact trivial
    · obtain ⟨o, e1⟩ := R.pr.some hq
      have := R.pr q hq
      rw [e1] at this
      rw [f q o (by simpa using e) e1]
      exact this
/-- what is lent: not protected any more -/
theorem DBs.lend : ∀ {ds : List D} {ys : List V}, DBs K H P ds ys → ∃ P' : List Addr, (∀ p ∈ P', p ∈ P) ∧ DRs K H P' ds ys
  | [], ys, h => ⟨P, fun _ h => h, by simpa only [DRs, DBs] using h⟩
  | d :: ds, ys, h => by
    obtain ⟨y, zs, rfl, h1, h2⟩ := h
    obtain ⟨P', hs, dr⟩ := DBs.lend h2
    rcases h1 with h1 | ⟨p, c, xs, rfl, rfl, h3, h4⟩
    · refine ⟨P', hs, ?_⟩
      simp only [DRs]
      exact ⟨y, zs, rfl, h1.less hs, dr⟩
    · refine ⟨P'.filter fun a => decide (a ≠ p), fun q hq => hs q (List.mem_filter.mp hq).1, ?_⟩
      have hs2 : ∀ q ∈ P'.filter (fun a => decide (a ≠ p)), q ∈ P' := fun q hq => (List.mem_filter.mp hq).1
      simp only [DRs]
      refine ⟨_, zs, rfl, ?_, dr.less hs2⟩
      simp only [DR]
      exact ⟨p, xs, rfl, .inl ⟨h3, fun z => by simpa using (List.mem_filter.mp z).2⟩, (h4.less hs).less hs2⟩
end

section
variable {X : L2.Cx} {nr : Nat} {G : Gx} {fr : Nat → Bool} {pos p : Pos} {n : Nat} {x : Str} {f : Nat} {prs : List Str}
theorem one_cell {K : Frg} {H : Hp} {P : List Addr} {p0 : Addr} {c : List D} {xs : List V} (h : H p0 = some (.lst xs)) (d : DRs K H P c xs) : CellsR K H P [p0] [c] := fun k q e => by
  cases k with
  | zero => cases e; exact ⟨c, xs, rfl, h, d⟩
  | succ k => simp at e
/-- behind a call that was handed no cell -/
theorem after0 {P P' W ps : List Addr} {vs : Vs} {σ : L2.St} {H H1 H2 : Hp} {q : Bool} {cs cs1 : Cs} {d : D} {y : V} {f : Nat} {r : E} {e : E} (a : Aft X.K P W nr ps vs σ H (quiet r) cs cs1 H1) (hs : ∀ p ∈ P', p ∈ P) (R : RV X.K P W nr ps vs cs σ H)
    (p : PstF X.K P' [] H1 (fr f) [] d y H2) (hl : P' = P ∨ hasList d = false) (hq : quiet e = true → quiet r = true) (ho : owned e = true) (hf : fresh fr e = fr f) : Pst0 X.K P W nr ps vs σ H fr e cs cs1 d y H2 := by
  have dr : DR X.K H2 P d y := by
    rcases hl with rfl | hl
    · exact p.dr
    · exact DR.nolist d y hl p.dr
  refine ⟨(a.qu hq).step p.frm, .inl dr, fun _ => dr, fun z => ?_⟩
  rw [hf] at z
  intro c ec
  rcases hl with rfl | hl
  · exact ((p.new z).later a.frm R.sub a.rv.pr) c ec
  · rw [ec] at hl; simp [hasList] at hl
theorem e_call {ea : Expr} {es : List Expr} {r : E} (F : FnF X G fr n x f 0 prs) (hr : Room n X.A) (hg : Gl X x) (hdb : (x == ("__debug__" : Str)) = false) (ha : PA X (ea :: es) (tR X.K nr G r)) (hs : noStar ea = true) (hss : es.all noStar = true)
    (hrow : isRow r = true) (hlen : rowLen r = prs.length) : PE X (.Call (.Name x p) (ea :: es) [] pos) (tE X.K nr G fr (.call f [] r)) := by
  obtain ⟨a, fd, h1, h2, h3, h4⟩ := F.ex
  refine PE.up (PE.weak (pe_call h4 hr hg h1 h2 h3 .nil pass0 ha hdb (star_cons hs) (star_any hss)) fun σ H Q q => ?_)
  obtain ⟨P, W, ps, vs, cs, d, cs', R, ev, q⟩ := q
  simp only [evE] at ev
  obtain ⟨⟨t, cs1⟩, ev1, ev⟩ := LP.R.bind_ok ev
  cases t with
  | tuple ds =>
    simp only at ev
    obtain ⟨kc, ev2, ev⟩ := LP.R.bind_ok ev
    simp only [cellsAt] at ev2
    cases ev2
    obtain ⟨⟨d', new⟩, ev3, ev⟩ := LP.R.bind_ok ev
    obtain ⟨_, ev4, ev⟩ := LP.R.bind_ok ev
    cases ev
    have ev4 := LP.R.chk_ok ev4
    simp only [Bool.and_eq_true, Bool.or_eq_true, Bool.not_eq_true'] at ev4
    refine ⟨P, W, ps, vs, cs, ds, cs1, R, ev1, fun ys H1 pr1 => ?_⟩
    simp only [List.append_nil]
    have hdl := row_len hrow ev1
    rcases ev4.1 with hl | hl
    · have dr := pr1.own hl
      refine ⟨P, [], ys, ds, [], d', new, by simp, rfl, by rw [Nat.zero_add, dr.length, hdl, hlen], List.nodup_nil, by simp, pr1.aft.rv.pr, fun k q e => by simp at e, rfl, dr, ev3, fun y H2 pf => ?_⟩
      have hnew : new = [] := List.eq_nil_of_length_eq_zero pf.len
      subst hnew
      exact q y H2 (after0 (e := .call f [] r) (q := true) pr1.aft (fun _ h => h) R pf (.inl rfl) (fun z => by simpa only [quiet, List.isEmpty_nil, Bool.true_and] using z) rfl rfl)
    · obtain ⟨P', hP, dr⟩ := pr1.db.lend
      refine ⟨P', [], ys, ds, [], d', new, by simp, rfl, by rw [Nat.zero_add, dr.length, hdl, hlen], List.nodup_nil, by simp, fun z hz => pr1.aft.rv.pr z (hP z hz), fun k q e => by simp at e, rfl, dr, ev3, fun y H2 pf => ?_⟩
      have hnew : new = [] := List.eq_nil_of_length_eq_zero pf.len
      subst hnew
      exact q y H2 (after0 (e := .call f [] r) (q := true) pr1.aft hP R pf (.inr hl) (fun z => by simpa only [quiet, List.isEmpty_nil, Bool.true_and] using z) rfl rfl)
  | _ => cases ev
theorem e_call0 (F : FnF X G fr n x f 0 prs) (hr : Room n X.A) (hg : Gl X x) (hdb : (x == ("__debug__" : Str)) = false) (hlen : prs.length = 0) : PE X (.Call (.Name x p) [] [] pos) (tE X.K nr G fr (.call f [] .nil)) := by
  obtain ⟨a, fd, h1, h2, h3, h4⟩ := F.ex
  refine PE.up (PE.weak (pe_call0 (p := p) (pos := pos) h4 hr hg h1 h2 h3 .nil pass0 hdb) fun σ H Q q => ?_)
  obtain ⟨P, W, ps, vs, cs, d, cs', R, ev, q⟩ := q
  simp only [evE] at ev
  obtain ⟨⟨t, cs1⟩, ev1, ev⟩ := LP.R.bind_ok ev
  cases ev1
  simp only at ev
  obtain ⟨kc, ev2, ev⟩ := LP.R.bind_ok ev
  simp only [cellsAt] at ev2
  cases ev2
  obtain ⟨⟨d', new⟩, ev3, ev⟩ := LP.R.bind_ok ev
  obtain ⟨_, ev4, ev⟩ := LP.R.bind_ok ev
  cases ev
  refine ⟨P, [], [], [], [], d', new, by simp, rfl, by simp [hlen], List.nodup_nil, by simp, R.pr, fun k q e => by simp at e, rfl, DRs.nil, ev3, fun y H2 pf => ?_⟩
  have hnew : new = [] := List.eq_nil_of_length_eq_zero pf.len
  subst hnew
  exact q y H2 (after0 (r := .nil) (e := .call f [] .nil) (q := true) (Aft.refl R) (fun _ h => h) R pf (.inl rfl) (fun z => rfl) rfl rfl)
/-- a cell is handed on -/
theorem e_callr {y : Str} {py : Pos} {es : List Expr} {r : E} {i : Nat} (F : FnF X G fr n x f 1 prs) (hr : Room n X.A) (hg : Gl X x) (hdb : (x == ("__debug__" : Str)) = false) (hv : PE X (.Name y py) (tVar i)) (ha : PA X es (tR X.K nr G r)) (hss : es.all noStar = true)
    (hrow : isRow r = true) (hl : lends r = false) (hlen : rowLen r + 1 = prs.length) : PE X (.Call (.Name x p) (.Name y py :: es) [] pos) (tE X.K nr G fr (.call f [i] r)) := by
  obtain ⟨a, fd, h1, h2, h3, h4⟩ := F.ex
  refine PE.up (PE.weak (pe_call h4 hr hg h1 h2 h3 .nil pass0 (pa_cons hv ha) hdb (star_cons rfl) (star_any hss)) fun σ H Q q => ?_)
  obtain ⟨P, W, ps, vs, cs, d, cs', R, ev, q⟩ := q
  simp only [evE] at ev
  obtain ⟨⟨t, cs1⟩, ev1, ev⟩ := LP.R.bind_ok ev
  cases t with
  | tuple ds =>
    simp only at ev
    obtain ⟨kc, ev2, ev⟩ := LP.R.bind_ok ev
    simp only [cellsAt] at ev2
    obtain ⟨k, e1, ev2⟩ := LP.R.bind_ok ev2
    obtain ⟨c, e2, ev2⟩ := LP.R.bind_ok ev2
    have e2 := LP.R.ofO_ok e2
    cases ev2
    obtain ⟨⟨d', new⟩, ev3, ev⟩ := LP.R.bind_ok ev
    obtain ⟨_, ev4, ev⟩ := LP.R.bind_ok ev
    cases ev
    have ev4 := LP.R.chk_ok ev4
    simp only [Bool.and_eq_true, Bool.or_eq_true, Bool.not_eq_true', List.all_eq_true] at ev4
    have hvi : vs[i]? = some (.c k) := by
      unfold getC at e1
      split at e1
      · rename_i hv'; cases e1; exact hv'
      · cases e1
    obtain ⟨p0, f1, f2⟩ := R.var i k hvi
    refine ⟨.ref p0, f2, P, W, ps, vs, cs, ds, cs1, R, ev1, fun ys H1 pr1 => ?_⟩
    simp only [List.append_nil]
    have hdl := row_len hrow ev1
    have dr := pr1.own hl
    obtain ⟨p1, c1, xs1, g1, g2, g3, g4, g5⟩ := pr1.aft.rv.cell k (.inr ⟨i, hvi⟩)
    rw [f1] at g1; cases g1
    rw [e2] at g2; cases g2
    have hpP := pr1.aft.rv.sub _ g3
    refine ⟨P, [p0], ys, ds, [c], d', new, by simp, rfl, by rw [dr.length, hdl, ← hlen, Nat.add_comm], by simp, by simpa using hpP, pr1.aft.rv.pr, one_cell g4 g5, rfl, dr, ev3, fun z H2 pf => ?_⟩
    -- one cell has come back
    obtain ⟨c', rfl⟩ : ∃ c', new = [c'] := by
      have := pf.len
      match new, this with
      | [c'], _ => exact ⟨c', rfl⟩
    obtain ⟨c2, xs2, k1, k2, k3⟩ := pf.cel 0 p0 rfl
    cases k1
    have R2 := pr1.aft.rv.write f1 hpP pf.frm k2 k3
    refine q z H2 ⟨⟨R2, pr1.aft.frm.trans (pf.frm.wide (by simpa using g3)), fun z => ?_, fun j p2 lj ej => ?_⟩, .inl pf.dr, fun _ => pf.dr, fun z => ?_⟩
    · simp [quiet] at z
    · by_cases hj : j = k
      · subst hj
        refine .inr ⟨c', ?_, ev4.2 _ (List.mem_cons_self ..)⟩
        show (cs1.set j c')[j]? = some c'
        rw [List.getElem?_set_self (by rw [← pr1.aft.rv.cl]; exact (List.getElem?_eq_some_iff.mp f1).1)]
      · have hne : p2 ≠ p0 := fun z => hj (by
          rw [z] at ej
          obtain ⟨h1, e1⟩ := List.getElem?_eq_some_iff.mp ej
          obtain ⟨h2, e2⟩ := List.getElem?_eq_some_iff.mp f1
          exact (List.getElem_inj R.nd).mp (e1.trans e2.symm))
        have hc : (putCells [(k, c)] [c'] cs1)[j]? = cs1[j]? := by
          show (cs1.set k c')[j]? = _
          rw [List.getElem?_set_ne (Ne.symm hj)]
        rw [hc]
        rcases pr1.aft.chg j p2 lj ej with ⟨m1, m2⟩ | m
        · obtain ⟨p3, c3, xs3, n1, n2, n3, n4, n5⟩ := pr1.aft.rv.cell j lj
          rw [ej] at n1; cases n1
          exact .inl ⟨by rw [← m1, n4, pf.frm _ _ (by simpa using hne) n4], m2⟩
        · exact .inr m
    · exact (pf.new z).later pr1.aft.frm R.sub pr1.aft.rv.pr
  | _ => cases ev
/-- a new list is handed on as a cell -/
theorem e_callt {ea : Expr} {es : List Expr} {r ra : E} (F : FnF X G fr n x f 1 prs) (hr : Room n X.A) (hg : Gl X x) (hdb : (x == ("__debug__" : Str)) = false) (hv : PE X ea (tE X.K nr G fr ra)) (hfr : fresh fr ra = true) (ha : PA X es (tR X.K nr G r)) (hs : noStar ea = true) (hss : es.all noStar = true)
    (hrow : isRow r = true) (hl : lends r = false) (hlen : rowLen r + 1 = prs.length) : PE X (.Call (.Name x p) (ea :: es) [] pos) (tE X.K nr G fr (.callt f ra r)) := by
  obtain ⟨a, fd, h1, h2, h3, h4⟩ := F.ex
  refine PE.up (PE.weak (pe_call h4 hr hg h1 h2 h3 .nil pass0 (pa_cons hv ha (star_cons hs)) hdb (star_cons hs) (star_any hss)) fun σ H Q q => ?_)
  obtain ⟨P, W, ps, vs, cs, d, cs', R, ev, q⟩ := q
  simp only [evE] at ev
  obtain ⟨⟨d0, cs0⟩, ev0, ev⟩ := LP.R.bind_ok ev
  cases d0 with
  | list c =>
    simp only at ev
    obtain ⟨⟨t, cs1⟩, ev1, ev⟩ := LP.R.bind_ok ev
    cases t with
    | tuple ds =>
      simp only at ev
      obtain ⟨⟨d', new⟩, ev3, ev⟩ := LP.R.bind_ok ev
      obtain ⟨_, ev4, ev⟩ := LP.R.bind_ok ev
      cases ev
      refine ⟨P, W, ps, vs, cs, .list c, cs0, R, ev0, fun x0 H0 pp => ?_⟩
      obtain ⟨p0, xs, rfl, hn, hp0, hd0⟩ := pp.new hfr c rfl
      have R1 := R.up pp.aft hn (by rw [hp0]; exact trivial)
      have hpw : p0 ∉ W := fun z => R.pr.fresh hn (R.sub _ z)
      refine ⟨p0 :: P, W, ps, vs, cs0, ds, _, R1, ev1, fun ys H1 pr1 => ?_⟩
      simp only [List.append_nil]
      have hdl := row_len hrow ev1
      have dr := pr1.own hl
      have hp1 : H1 p0 = some (.lst xs) := pr1.aft.frm _ _ hpw hp0
      have hd1 : DRs X.K H1 (p0 :: P) c xs := hd0.frm R1.sub R1.pr pr1.aft.frm
      refine ⟨p0 :: P, [p0], ys, ds, [c], d', new, by simp, rfl, by rw [dr.length, hdl, ← hlen, Nat.add_comm], by simp, by simp, pr1.aft.rv.pr, one_cell hp1 hd1, rfl, dr, ev3, fun z H2 pf => ?_⟩
      obtain ⟨c2, xs2, k1, k2, k3⟩ := pf.cel 0 p0 rfl
      have R2 := (pr1.aft.rv.other (List.mem_cons_self ..) hpw pf.frm (by rw [k2]; exact trivial)).less (P' := P) (fun q hq => List.mem_cons_of_mem _ hq) R.sub
      have dr2 : DR X.K H2 P d' z := pf.dr.less fun q hq => List.mem_cons_of_mem _ hq
      have back : ∀ {b o}, H b = some o → b ≠ p0 := fun {b o} e z => by rw [z, hn] at e; cases e
      refine q z H2 ⟨⟨R2, fun b o hb e => ?_, fun z b o _ e => ?_, fun j p2 lj ej => ?_⟩, .inl dr2, fun _ => dr2, fun z => by cases z⟩
      · exact pf.frm _ _ (by simpa using back e) (pr1.aft.frm _ _ hb (pp.aft.frm _ _ hb e))
      · simp only [quiet, Bool.and_eq_true] at z
        exact pf.frm _ _ (by simpa using back e) (pr1.aft.qui z.2 _ _ (by simp) (pp.aft.qui z.1 _ _ (by simp) e))
      · have step : (H1 p2 = H p2 ∧ cs'[j]? = cs[j]?) ∨ ∃ c, cs'[j]? = some c ∧ hasListAll c = false := by
          rcases pr1.aft.chg j p2 lj ej with ⟨m1, m2⟩ | m
          · rcases pp.aft.chg j p2 lj ej with ⟨m3, m4⟩ | ⟨c3, m3, m4⟩
            · exact .inl ⟨m1.trans m3, m2.trans m4⟩
            · exact .inr ⟨c3, m2.trans m3, m4⟩
          · exact .inr m
        rcases step with ⟨m1, m2⟩ | m
        · obtain ⟨p3, c3, xs3, n1, n2, n3, n4, n5⟩ := R.cell j lj
          rw [ej] at n1; cases n1
          refine .inl ⟨?_, m2⟩
          rw [n4]
          exact pf.frm _ _ (by simpa using back n4) (m1.trans n4)
        · exact .inr m
    | _ => cases ev
  | _ => cases ev
/-- [..] * k -/
theorem e_rep {a b : Expr} {e1 e2 : E} (ha : PE X a (tE X.K nr G fr e1)) (hb : PE X b (tE X.K nr G fr e2)) (hf : fresh fr e1 = true) (hq : quiet e2 = true) : PE X (.BinOp a .Mult b pos) (tE X.K nr G fr (.rep e1 e2)) :=
  PE.up (PE.weak (pe_op op_rep ha hb) fun σ H Q q => by
    obtain ⟨P, W, ps, vs, cs, d, cs', R, ev, q⟩ := q
    simp only [evE] at ev
    obtain ⟨⟨d1, cs1⟩, ev1, ev⟩ := LP.R.bind_ok ev
    obtain ⟨⟨d2, cs2⟩, ev2, ev⟩ := LP.R.bind_ok ev
    cases d1 with
    | list c =>
      cases d2 with
      | int k =>
        simp only at ev
        obtain ⟨_, ev3, ev⟩ := LP.R.bind_ok ev
        cases ev
        have ev3 := of_decide_eq_true (LP.R.chk_ok ev3)
        refine ⟨P, W, ps, vs, cs, _, cs1, R, ev1, fun x H1 p1 => ⟨P, W, ps, vs, cs1, _, _, p1.aft.rv, ev2, fun y H2 p2 => ?_⟩⟩
        obtain ⟨p0, xs, rfl, hn, hp0, hd0⟩ := p1.new hf c rfl
        have e2 := p2.db.int
        subst e2
        have f2 := p2.aft.qui hq
        have hp2 : H2 p0 = some (.lst xs) := f2 _ _ (by simp) hp0
        have hd2 : DRs X.K H2 P c xs := (hd0.less fun q hq => List.mem_cons_of_mem _ hq).frm (W := []) (by simp) p1.aft.rv.pr f2
        have hl := hd0.length
        refine ⟨p0, k, xs, rfl, rfl, hp2, by omega, by omega, ?_, fun p hp => ?_⟩
        · have hk : k.toNat ≤ 1000 := by omega
          have h2 : xs.length * k.toNat ≤ 1000 * 1000 := Nat.mul_le_mul (by omega) hk
          exact Nat.le_trans h2 (by decide)
        · have l := laid_list p2.aft.rv.pr hp (replicate_drs hd2 k.toNat)
          exact q _ _ ⟨(p1.aft.trans p2.aft).step (Frm.new hp), .inl l.1, fun _ => l.1, fun _ => l.2.later (p1.aft.frm.trans p2.aft.frm) R.sub p2.aft.rv.pr⟩
      | _ => cases ev
    | _ => cases d2 <;> cases ev)
/-! ### keywords -/
def pick {α : Type} (perm : List Nat) (l : List α) : List α := perm.filterMap fun i => l[i]?
theorem pick_vals {zs : List V} {ws : List Value} (h : Vals zs ws) : ∀ perm : List Nat, Vals (pick perm zs) (pick perm ws)
  | [] => .nil
  | i :: perm => by
    unfold pick
    rw [List.filterMap_cons, List.filterMap_cons]
    cases e : zs[i]? with
    | none =>
      have : ws[i]? = none := by
        rw [List.getElem?_eq_none_iff] at e ⊢
        rw [← h.length]; exact e
      rw [this]
      exact pick_vals h perm
    | some z =>
      obtain ⟨w, e2, r⟩ := h.get e
      rw [e2]
      exact .cons r (pick_vals h perm)
theorem pick_drs {K : Frg} {H : Hp} {P : List Addr} {ds : List D} {zs : List V} (h : DRs K H P ds zs) : ∀ {perm : List Nat} {es : List D}, permute perm ds = .ok es → DRs K H P es (pick perm zs)
  | [], es, e => by simp only [permute, allM] at e; cases e; simp [pick, DRs]
  | i :: perm, es, e => by
    simp only [permute, allM] at e
    obtain ⟨d, e1, e⟩ := LP.R.bind_ok e
    obtain ⟨es', e2, e⟩ := LP.R.bind_ok e
    cases e
    obtain ⟨z, e3, dr⟩ := h.get (LP.R.ofO_ok e1)
    unfold pick
    rw [List.filterMap_cons, e3]
    simp only [DRs]
    exact ⟨z, _, rfl, dr, pick_drs h e2⟩
theorem permute_len {ds : List D} : ∀ {perm : List Nat} {es : List D}, permute perm ds = .ok es → es.length = perm.length
  | [], es, e => by simp only [permute, allM] at e; cases e; rfl
  | i :: perm, es, e => by
    simp only [permute, allM] at e
    obtain ⟨d, e1, e⟩ := LP.R.bind_ok e
    obtain ⟨es', e2, e⟩ := LP.R.bind_ok e
    cases e
    rw [List.length_cons, List.length_cons, permute_len e2]
theorem e_callk {kws : List Keyword} {ks : List Str} {perm : List Nat} {r : E} (F : ∃ a fd, X.mg x = some (.ref a) ∧ PySem.W.keepIn X.K (.ref a) = true ∧ KBn X.K fd prs 0 ks (fun _ ws => pick perm ws) (fun _ zs => pick perm zs) ∧ FnOk X.prog X.w X.K X.mg X.base CX0 n a fd prs (spF X.K G.cl fr f 0 prs.length))
    (hr : Room n X.A) (hg : Gl X x) (hdb : (x == ("__debug__" : Str)) = false) (hkw : PK X kws (tR X.K nr G r)) (hall : (backToKw pos (keywordEach kws X.env)).all (·.1.isSome) = true) (hks : (backToKw pos (keywordEach kws X.env)).filterMap (·.1) = ks)
    (hpl : (backToKw pos (keywordEach kws X.env)).any (·.1.isNone) = false) (hrow : isRow r = true) (hl : lends r = false) (hlen : perm.length = prs.length) (hkl : rowLen r = ks.length) : PE X (.Call (.Name x p) [] kws pos) (tE X.K nr G fr (.callk f perm r)) := by
  obtain ⟨a, fd, h1, h2, h3, h4⟩ := F
  refine PE.up (e := .callk f perm r) ⟨fun pins s σ H Q I q => ?_⟩
  refine wpAny_Call_Name_kw (ld_glob I hg h1 ?_ hdb)
  obtain ⟨P, W, ps, vs, cs, d, cs', R, ev, q⟩ := q
  simp only [evE] at ev
  obtain ⟨⟨t, cs1⟩, ev1, ev⟩ := LP.R.bind_ok ev
  cases t with
  | tuple ds =>
    simp only at ev
    obtain ⟨es, ev2, ev⟩ := LP.R.bind_ok ev
    obtain ⟨⟨d', new⟩, ev3, ev⟩ := LP.R.bind_ok ev
    simp only at ev
    have eqs : d = d' ∧ cs' = cs1 := by cases ev; exact ⟨rfl, rfl⟩
    obtain ⟨rfl, rfl⟩ := eqs
    refine PySem.W.callWith_KW0 (h₀ := X.base) I.ok.mod.kin h2 hall (thn (hkw.run pos pins s σ H (fun xs H' => PstR X.K P W nr ps vs σ H r cs cs' ds xs H') I ⟨P, W, ps, vs, cs, ds, cs', R, ev1, fun xs H' p => p⟩) fun ws s2 ⟨zs, H2, I2, rz, pr1⟩ => ⟨I2.kIn, ?_⟩) (by show (false || _) = false; rw [hpl]; rfl)
    rw [hks]
    have dr := pr1.own hl
    have hz : zs.length = ks.length := by rw [dr.length, row_len hrow ev1, hkl]
    refine run_fnN (us := []) (vs := []) (E := fun _ _ _ => False) h4 hr h3 pass0 I2 .nil rz rfl hz ?_
    have drp := pick_drs dr ev2
    refine ⟨P, [], pick perm zs, es, [], d, new, rfl, rfl, by rw [Nat.zero_add, drp.length, permute_len ev2, hlen], List.nodup_nil, by simp, pr1.aft.rv.pr, fun k q e => by simp at e, rfl, drp, ev3, fun y H3 pf => q y H3 ?_⟩
    have hnew : new = [] := List.eq_nil_of_length_eq_zero pf.len
    subst hnew
    exact after0 (e := .callk f perm r) (q := true) pr1.aft (fun _ h => h) R pf (.inl rfl) (fun z => by simpa only [quiet] using z) rfl rfl
  | _ => cases ev
end
end LP
set_option autoImplicit false
set_option linter.all false
set_option maxRecDepth 100000
set_option maxHeartbeats 1000000
/-! LPExp2: built-ins called, isinstance, slices, chains. -/
namespace LP
open PySem PySem.Spec PyProof.Rows L2
section
variable {X : L2.Cx} {nr : Nat} {G : Gx} {fr : Nat → Bool} {pos p p2 : Pos} {a b c : Expr} {e1 e2 e3 : E}
/-- f(a), f a built-in function -/
theorem e_b1 {o : O1} {x : Str} {id : String} (hc : CallR X (.builtin id) (rG1L X.K (op1 o) true)) (hg : Gl X x) (hm : X.mg x = none) (hv : bootBuiltins x = some (.builtin id)) (ha : PE X a (tE X.K nr G fr e1)) (hs : noStar a = true)
    (hn : x ≠ "__name__") (hdb : (x == ("__debug__" : Str)) = false) : PE X (.Call (.Name x p) [a] [] pos) (tE X.K nr G fr (.o1 o e1)) :=
  PE.up (PE.weak (pe_callB hc hg hm hv (pa_cons ha pa_nil (star_cons hs)) hn hdb (star_cons hs) rfl) (o1_call fun _ => rfl))
theorem e_t1 {o : O1} {x : Str} {T : String} (hc : CallR X (.type T) (rG1L X.K (op1 o) true)) (hg : Gl X x) (hm : X.mg x = none) (hv : bootBuiltins x = some (.type T)) (ha : PE X a (tE X.K nr G fr e1)) (hs : noStar a = true)
    (hn : x ≠ "__name__") (hdb : (x == ("__debug__" : Str)) = false) : PE X (.Call (.Name x p) [a] [] pos) (tE X.K nr G fr (.o1 o e1)) :=
  PE.up (PE.weak (pe_callTy hc hg hm hv (pa_cons ha pa_nil (star_cons hs)) hn hdb (star_cons hs) rfl) (o1_call fun _ => rfl))

/-! ### isinstance -/
def tyS : Ty → String
  | .int => "int"
  | .str => "str"
  | .bool => "bool"
  | .list => "list"
  | .tuple => "tuple"
def tyOfD : D → String
  | .none => "NoneType"
  | .bool _ => "bool"
  | .int _ => "int"
  | .str _ => "str"
  | .list _ => "list"
  | .tuple _ => "tuple"
  | .dict _ => "dict"
theorem kitB_all : ∀ s ∈ ["NoneType", "bool", "int", "str", "list", "tuple"], ∀ t ∈ [Ty.int, .str, .bool, .list, .tuple], kitB s (tyS t) = some (match s, t with
    | "bool", .bool => true | "bool", .int => true | "int", .int => true | "str", .str => true | "list", .list => true | "tuple", .tuple => true | _, _ => false) := by decide +kernel
theorem kit_isTy {K : Frg} {d : D} {t : Ty} (h : d.plain = true) : PySem.W.kitOne K (.type (tyOfD d)) (.type (tyS t)) = some (isTy d t) := by
  refine kit_ty ?_
  cases d with
  | dict _ => cases h
  | none => cases t <;> exact kitB_all "NoneType" (by decide) _ (by decide)
  | bool _ => cases t <;> exact kitB_all "bool" (by decide) _ (by decide)
  | int _ => cases t <;> exact kitB_all "int" (by decide) _ (by decide)
  | str _ => cases t <;> exact kitB_all "str" (by decide) _ (by decide)
  | list _ => cases t <;> exact kitB_all "list" (by decide) _ (by decide)
  | tuple _ => cases t <;> exact kitB_all "tuple" (by decide) _ (by decide)
theorem kit_any {K : Frg} {d : D} (h : d.plain = true) : ∀ (ts : List Ty), PySem.W.kitAny K (.type (tyOfD d)) (ts.map fun t => Value.type (tyS t)) = some (ts.any (isTy d))
  | [] => rfl
  | t :: ts => by
    rw [List.map_cons, List.any_cons]
    refine kitAny_cons (kit_isTy h) (fun z => ?_) fun z => ?_
    · rw [z, Bool.false_or]
      exact kit_any h ts
    · rw [z, Bool.true_or]
theorem tyX_of {K : Frg} {H : Hp} {P : List Addr} {d : D} {x : V} (h : DB K H P d x) : TyX K H x (.type (tyOfD d)) := by
  cases d with
  | none => rw [h.none]; exact .base .non
  | bool _ => rw [h.bool]; exact .base (.bl _)
  | int _ => rw [h.int]; exact .base (.int _)
  | str _ => rw [h.str]; exact .base (.str _)
  | list _ =>
    obtain ⟨a, xs, rfl, h1, _⟩ := h.list
    rcases h1 with (h1 | ⟨o, h1⟩) | h1
    · exact .base (.lst h1)
    · exact .base (.frz h1)
    · obtain ⟨o, its, n, e1, e2, _⟩ := h1
      exact .kList e1 e2
  | tuple _ =>
    obtain ⟨a, xs, rfl, h1, _⟩ := h.tuple
    rcases h1 with (h1 | ⟨o, h1⟩) | h1
    · exact .base (.tup h1)
    · exact .fTuple h1
    · obtain ⟨o, its, n, e1, e2, _⟩ := h1
      exact .kTuple e1 e2
  | dict _ => have := h.plain; cases this
/-- isinstance(a, T) -/
theorem e_isi1 {t : Ty} (hg : Gl X "isinstance") (hm : X.mg "isinstance" = none) (ha : PE X a (tE X.K nr G fr e1)) (hc : PE X c (tC (.ty (tyS t)))) (hs : noStar a = true) (hs2 : noStar c = true) :
    PE X (.Call (.Name "isinstance" p) [a, c] [] pos) (tE X.K nr G fr (.isi e1 [t])) :=
  PE.up (PE.weak (pe_callB call_isi hg hm (by rfl) (pa_cons ha (pa_cons hc pa_nil (star_cons hs2)) (star_cons hs)) (by decide) (by decide) (star_cons hs) (star_any (by simp [hs2]))) fun σ H Q q => by
    obtain ⟨P, W, ps, vs, cs, d, cs', R, ev, q⟩ := q
    simp only [evE] at ev
    obtain ⟨⟨d1, cs1⟩, ev1, ev⟩ := LP.R.bind_ok ev
    cases ev
    refine ⟨P, W, ps, vs, cs, d1, _, R, ev1, fun x H1 p1 => ?_⟩
    refine ⟨x, .ty (tyS t), _, _, _, rfl, .ty _, tyX_of p1.db, kit_isTy p1.db.plain, ?_⟩
    have dr : ∀ P, DR X.K H1 P (.bool (isTy d1 t)) (.bl (isTy d1 t)) := fun P => by simp only [DR]
    refine q _ _ ⟨p1.aft, .inl ?_, fun _ => ?_, fun z => by cases z⟩
    · simpa using dr P
    · simpa using dr P)
/-- the classes -/
def isTys (K : Frg) (t : TA) (ts : List Ty) : Prop := ∀ σ H Q, Q (ts.map fun t => V.ty (tyS t)) H → t σ H Q
theorem paired_ty : ∀ ts : List Ty, Paired ClsV (ts.map fun t => V.ty (tyS t)) (ts.map fun t => Value.type (tyS t))
  | [] => .nil
  | t :: ts => .cons (.ty _) (paired_ty ts)
theorem e_isiT {es : List Expr} {k : Nat} {t : TA} {ts : List Ty} (hg : Gl X "isinstance") (hm : X.mg "isinstance" = none) (ha : PE X a (tE X.K nr G fr e1)) (hc : PA X es t) (ht : isTys X.K t ts) (hl : ts.length ≤ 10) (hs : noStar a = true) :
    PE X (.Call (.Name "isinstance" p) [a, .Tuple es k p2] [] pos) (tE X.K nr G fr (.isi e1 ts)) :=
  PE.up (PE.weak (pe_callB call_isiT hg hm (by rfl) (pa_cons ha (pa_cons (pe_tup hc) pa_nil) (star_cons hs)) (by decide) (by decide) (star_cons hs) (star_any (by rfl))) fun σ H Q q => by
    obtain ⟨P, W, ps, vs, cs, d, cs', R, ev, q⟩ := q
    simp only [evE] at ev
    obtain ⟨⟨d1, cs1⟩, ev1, ev⟩ := LP.R.bind_ok ev
    cases ev
    refine ⟨P, W, ps, vs, cs, d1, _, R, ev1, fun x H1 p1 => ht _ _ _ ⟨by rw [List.length_map]; exact Nat.le_trans hl (by decide), fun tp hp => ?_⟩⟩
    have f : Frm [] H1 (upd H1 tp (.tup (ts.map fun t => V.ty (tyS t)))) := Frm.new hp
    refine ⟨x, tp, _, _, _, _, rfl, upd_same, paired_ty ts, tyX_of (p1.db.all f p1.aft.rv.pr), kit_any p1.db.plain ts, ?_⟩
    refine q _ _ ⟨p1.aft.step f, .inl ?_, fun _ => ?_, fun z => by cases z⟩
    · simp only [DR]
    · simp only [DR])

/-! ### slices -/
theorem cut_ix (n d : Nat) (o : Option Int) : cutIx n d o = HT.sIx n d o := by
  cases o with
  | none => rfl
  | some i =>
    simp only [cutIx, HT.sIx]
    by_cases h : i < 0
    · rw [if_pos h, if_neg (by omega)]
    · rw [if_neg h, if_pos (by omega)]
theorem cut_drs {K : Frg} {H : Hp} {P : List Addr} {ds : List D} {xs : List V} (h : DRs K H P ds xs) (lo hi : Option Int) : DRs K H P (cutD lo hi ds) (cutV xs lo hi) := by
  unfold cutD cutV
  rw [cut_ix, cut_ix, h.length]
  exact (h.drop _).take _
/-- a bound's reading -/
def bndE : E → Bool
  | .nob => true
  | _ => false
def tBnd (K : Frg) (nr : Nat) (G : Gx) (e : E) : TO := fun σ H Q =>
  ∃ P W ps vs cs d cs' o, RV K P W nr ps vs cs σ H ∧ evE G e vs cs = .ok (d, cs') ∧ evE.bnd e d = .ok o ∧ ∀ H', Aft K P W nr ps vs σ H (quiet e) cs cs' H' → Q o H'
theorem b_none : PO X none (tBnd X.K nr G .nob) := ⟨fun pins s σ H Q I q => by
  obtain ⟨P, W, ps, vs, cs, d, cs', o, R, ev, eb, q⟩ := q
  simp only [evE] at ev
  cases ev
  cases eb
  exact po_none.run pins s σ H Q I (q H (Aft.refl R))⟩
/-- a bound that is an int -/
theorem b_some (ha : PE X a (tE X.K nr G fr e1)) (hi : bndE e1 = false) : PO X (some a) (tBnd X.K nr G e1) := ⟨fun pins s σ H Q I q => by
  obtain ⟨P, W, ps, vs, cs, d, cs', o, R, ev, eb, q⟩ := q
  refine (po_some ha).run pins s σ H Q I ⟨P, W, ps, vs, cs, d, cs', R, ev, fun x H1 p1 => ?_⟩
  unfold evE.bnd at eb
  split at eb
  · cases hi
  · cases eb; exact ⟨_, p1.db.int, q H1 p1.aft⟩
  · cases eb⟩
theorem e_sl {lo hi : Option Expr} (ha : PE X a (tE X.K nr G fr e1)) (hl : PO X lo (tBnd X.K nr G e2)) (hh : PO X hi (tBnd X.K nr G e3)) (wf : (owned e1 || (quiet e2 && quiet e3)) = true) :
    PE X (.Subscript a (.Slice lo hi none p2) pos) (tE X.K nr G fr (.sl e1 e2 e3)) :=
  PE.up (PE.weak (pe_slice (SlR.or sl_list sl_tupA) ha hl hh) fun σ H Q q => by
    obtain ⟨P, W, ps, vs, cs, d, cs', R, ev, q⟩ := q
    simp only [evE] at ev
    obtain ⟨⟨d1, cs1⟩, ev1, ev⟩ := LP.R.bind_ok ev
    obtain ⟨⟨d2, cs2⟩, ev2, ev⟩ := LP.R.bind_ok ev
    obtain ⟨⟨d3, cs3⟩, ev3, ev⟩ := LP.R.bind_ok ev
    obtain ⟨l, ev4, ev⟩ := LP.R.bind_ok ev
    obtain ⟨h, ev5, ev⟩ := LP.R.bind_ok ev
    obtain ⟨r, ev6, ev⟩ := LP.R.bind_ok ev
    cases ev
    refine ⟨P, W, ps, vs, cs, d1, cs1, R, ev1, fun x H1 p1 => ⟨P, W, ps, vs, cs1, d2, cs2, l, p1.aft.rv, ev2, ev4, fun H2 a2 => ⟨P, W, ps, vs, cs2, d3, _, h, a2.rv, ev3, ev5, fun H3 a3 => ?_⟩⟩⟩
    have db : DB X.K H3 P d1 x := by
      rw [Bool.or_eq_true] at wf
      rcases wf with w | w
      · exact .inl (((p1.own w).frm p1.aft.rv.sub p1.aft.rv.pr a2.frm).frm a2.rv.sub a2.rv.pr a3.frm)
      · rw [Bool.and_eq_true] at w
        exact (p1.db.all (a2.qui w.1) p1.aft.rv.pr).all (a3.qui w.2) a2.rv.pr
    have aft := (p1.aft.trans a2).trans a3
    cases d1 with
    | list ds =>
      cases ev6
      obtain ⟨a0, xs, rfl, h1, h2⟩ := db.list
      refine .inl ⟨a0, xs, rfl, h1, fun p hp => ?_⟩
      have l := laid_list a3.rv.pr hp (cut_drs h2 l h)
      exact q _ _ ⟨aft.step (Frm.new hp), .inl l.1, fun _ => l.1, fun _ => l.2.later aft.frm R.sub a3.rv.pr⟩
    | tuple ds =>
      cases ev6
      obtain ⟨a0, xs, rfl, h1, h2⟩ := db.tuple
      refine .inr ⟨a0, xs, rfl, h1, fun hw => ?_, fun _ p hp => ?_⟩
      · have e : cutD l h ds = ds := by
          unfold cutD
          rw [cut_ix, cut_ix, ← h2.length, hw.1, hw.2, h2.length]
          simp
        rw [e] at q
        have dr : DR X.K H3 P (.tuple ds) (.ref a0) := by simp only [DR]; exact ⟨a0, xs, rfl, h1, h2⟩
        exact q _ _ ⟨aft, .inl dr, fun _ => dr, fun _ c ec => by cases ec⟩
      · have l := laid_tup a3.rv.pr hp (cut_drs h2 l h)
        exact q _ _ ⟨aft.step (Frm.new hp), .inl l, fun _ => l, fun _ c ec => by cases ec⟩
    | _ => cases ev6)

/-! ### a < b < c -/
theorem chain_weak {o o' : O2} (h1 : (owned e1 && owned e2) = true) (hcm : cmpO o = true) (σ : L2.St) (H : Hp) (Q : VK) (q : tE0 X.K nr G fr (.chain o o' e1 e2 e3) σ H Q) :
    tChain (rG X.K (op2 o) true) (rG X.K (op2 o') true) (tE X.K nr G fr e1) (tE X.K nr G fr e2) (tE X.K nr G fr e3) σ H Q := by
  obtain ⟨P, W, ps, vs, cs, d, cs', R, ev, q⟩ := q
  rw [Bool.and_eq_true] at h1
  simp only [evE] at ev
  obtain ⟨⟨d1, cs1⟩, ev1, ev⟩ := LP.R.bind_ok ev
  obtain ⟨⟨d2, cs2⟩, ev2, ev⟩ := LP.R.bind_ok ev
  obtain ⟨r, ev3, ev⟩ := LP.R.bind_ok ev
  obtain ⟨k, rfl⟩ := cmp_bool hcm ev3
  refine ⟨P, W, ps, vs, cs, d1, cs1, R, ev1, fun x H1 p1 => ⟨P, W, ps, vs, cs1, d2, cs2, p1.aft.rv, ev2, fun y H2 p2 => ?_⟩⟩
  refine ⟨P, d1, d2, _, p2.aft.rv.pr, p1.over p2.aft (by rw [h1.1]; rfl), p2.db, ev3, fun z H3 f dr nl => ⟨k, by simpa only [DR] using dr, ?_⟩⟩
  have a3 := (p1.aft.trans p2.aft).step f
  cases k with
  | false =>
    rw [if_neg Bool.false_ne_true]
    cases ev
    refine q _ _ ⟨a3.qu (fun z => ?_), .inl ?_, fun _ => ?_, fun z => by cases z⟩
    · simp only [quiet, Bool.and_eq_true] at z ⊢; exact z.1
    · simp only [DR]
    · simp only [DR]
  | true =>
    rw [if_pos rfl]
    simp only at ev
    obtain ⟨⟨d4, cs4⟩, ev4, ev⟩ := LP.R.bind_ok ev
    obtain ⟨r, ev5, ev⟩ := LP.R.bind_ok ev
    cases ev
    refine ⟨P, W, ps, vs, cs2, d4, _, a3.rv, ev4, fun w H4 p4 => ?_⟩
    have d2' : DR X.K H4 P d2 y := ((p2.own h1.2).frm (W := []) (by simp) p2.aft.rv.pr f).frm a3.rv.sub a3.rv.pr p4.aft.frm
    refine ⟨P, d2, d4, _, p4.aft.rv.pr, .inl d2', p4.db, ev5, fun z H5 f5 dr5 nl5 => q z H5 ⟨?_, .inl dr5, fun _ => dr5, fun z => by cases z⟩⟩
    refine ((a3.trans p4.aft).step f5).qu fun z => ?_
    simp only [quiet, Bool.and_eq_true] at z ⊢; exact z
theorem e_chain {op op' : CmpOp} {o o' : O2} (ho : OpR X (compareOp op) (rG X.K (op2 o) true)) (ho' : OpR X (compareOp op') (rG X.K (op2 o') true)) (ha : PE X a (tE X.K nr G fr e1)) (hb : PE X b (tE X.K nr G fr e2)) (hc : PE X c (tE X.K nr G fr e3))
    (hm : lastMarks [op, op'] [b, c] = false) (h1 : (owned e1 && owned e2) = true) (hcm : cmpO o = true) : PE X (.Compare a [op, op'] [b, c] pos) (tE X.K nr G fr (.chain o o' e1 e2 e3)) :=
  PE.up (PE.weak (pe_chain ho ho' ha hb hc hm) (chain_weak h1 hcm))
end
end LP
set_option autoImplicit false
set_option linter.all false
set_option maxRecDepth 100000
set_option maxHeartbeats 1000000
/-! LPNub: data that are alike: equal ones, least ones; each once. -/
namespace LP
open PySem PySem.Spec PyProof.Rows L2 PySem.W
mutual
theorem alk_eqv : ∀ (x y : D), alike x y = true → PyData.eqv x y = true → x = y
  | .none, y, h, e => by cases y <;> first | rfl | simp [alike] at h
  | .bool a, y, h, e => by
    cases y with
    | bool b => simp only [PyData.eqv, beq_iff_eq] at e; rw [e]
    | _ => simp [alike] at h
  | .int a, y, h, e => by
    cases y with
    | int b => simp only [PyData.eqv, beq_iff_eq] at e; rw [e]
    | _ => simp [alike] at h
  | .str a, y, h, e => by
    cases y with
    | str b => simp only [PyData.eqv, beq_iff_eq] at e; rw [e]
    | _ => simp [alike] at h
  | .list xs, y, h, e => by
    cases y with
    | list ys =>
      simp only [PyData.eqv] at e
      rw [alk_eqvAll xs ys (by simpa only [alike] using h) e]
    | _ => simp [alike] at h
  | .tuple xs, y, h, e => by
    cases y with
    | tuple ys =>
      simp only [PyData.eqv] at e
      rw [alk_eqvAll xs ys (by simpa only [alike] using h) e]
    | _ => simp [alike] at h
  | .dict _, y, h, e => by cases y <;> simp [alike] at h
theorem alk_eqvAll : ∀ (xs ys : List D), alikeAll xs ys = true → PyData.eqvAll xs ys = true → xs = ys
  | [], [], _, _ => rfl
  | [], _ :: _, _, e => by simp [PyData.eqvAll] at e
  | _ :: _, [], _, e => by simp [PyData.eqvAll] at e
  | x :: xs, y :: ys, h, e => by
    obtain ⟨h1, h2⟩ := alike_all_cons h
    simp only [PyData.eqvAll, Bool.and_eq_true] at e
    rw [alk_eqv x y h1 e.1, alk_eqvAll xs ys h2 e.2]
end
mutual
theorem eqv_refl' : ∀ (x : D), hasList x = false → PyData.eqv x x = true
  | .none, _ => by simp [PyData.eqv]
  | .bool _, _ => by simp [PyData.eqv]
  | .int _, _ => by simp [PyData.eqv]
  | .str _, _ => by simp [PyData.eqv]
  | .list _, h => by simp [hasList] at h
  | .tuple xs, h => by simp only [PyData.eqv]; exact eqvAll_refl' xs (by simpa only [hasList] using h)
  | .dict _, h => by simp [hasList] at h
theorem eqvAll_refl' : ∀ (xs : List D), hasListAll xs = false → PyData.eqvAll xs xs = true
  | [], _ => by simp [PyData.eqvAll]
  | x :: xs, h => by
    simp only [hasListAll, Bool.or_eq_false_iff] at h
    simp only [PyData.eqvAll, eqv_refl' x h.1, eqvAll_refl' xs h.2, Bool.and_self]
end
mutual
theorem alk_lt : ∀ (x y : D), alike x y = true → alike y x = true → hasList x = false → hasList y = false → dlt x y = false → dlt y x = false → x = y
  | .none, y, h, _, _, _, _, _ => by cases y <;> first | rfl | simp [alike] at h
  | .bool a, y, h, _, _, _, e1, e2 => by
    cases y with
    | bool b => cases a <;> cases b <;> first | rfl | simp [dlt] at e1 e2
    | _ => simp [alike] at h
  | .int a, y, h, _, _, _, e1, e2 => by
    cases y with
    | int b =>
      simp only [dlt, decide_eq_false_iff_not] at e1 e2
      have : a = b := by omega
      rw [this]
    | _ => simp [alike] at h
  | .str a, y, h, _, _, _, e1, e2 => by
    cases y with
    | str b =>
      simp only [dlt, decide_eq_false_iff_not] at e1 e2
      have : a.cps.toList = b.cps.toList := List.le_antisymm (List.not_lt.mp e2) (List.not_lt.mp e1)
      rw [str_of_cps this]
    | _ => simp [alike] at h
  | .list xs, y, h, _, hl, _, _, _ => by simp [hasList] at hl
  | .tuple xs, y, h, h', hl, hl', e1, e2 => by
    cases y with
    | tuple ys =>
      simp only [dlt] at e1 e2
      rw [alk_ltAll xs ys (by simpa only [alike] using h) (by simpa only [alike] using h') (by simpa only [hasList] using hl) (by simpa only [hasList] using hl') e1 e2]
    | _ => simp [alike] at h
  | .dict _, y, h, _, _, _, _, _ => by cases y <;> simp [alike] at h
theorem alk_ltAll : ∀ (xs ys : List D), alikeAll xs ys = true → alikeAll ys xs = true → hasListAll xs = false → hasListAll ys = false → dltAll xs ys = false → dltAll ys xs = false → xs = ys
  | [], [], _, _, _, _, _, _ => rfl
  | [], _ :: _, _, _, _, _, e1, _ => by simp [dltAll] at e1
  | _ :: _, [], _, _, _, _, _, e2 => by simp [dltAll] at e2
  | x :: xs, y :: ys, h, h', hl, hl', e1, e2 => by
    obtain ⟨h1, h2⟩ := alike_all_cons h
    obtain ⟨h1', h2'⟩ := alike_all_cons h'
    simp only [hasListAll, Bool.or_eq_false_iff] at hl hl'
    simp only [dltAll] at e1 e2
    by_cases hxy : PyData.eqv x y = true
    · have exy := alk_eqv x y h1 hxy
      subst exy
      rw [if_pos hxy] at e1 e2
      rw [alk_ltAll xs ys h2 h2' hl.2 hl'.2 e1 e2]
    · have hyx : ¬ PyData.eqv y x = true := fun z => hxy (by rw [alk_eqv y x h1' z]; exact eqv_refl' _ hl.1)
      rw [if_neg hxy] at e1
      rw [if_neg hyx] at e2
      exact absurd (by rw [alk_lt x y h1 h1' hl.1 hl'.1 e1 e2]; exact eqv_refl' _ hl'.1) hxy
end
/-! ### keys -/
mutual
def nk : D → NestedKey
  | .bool b => .num (if b = true then 1 else 0)
  | .int i => .num i
  | .str x => .text x
  | .tuple ds => .tup (nks ds)
  | _ => .none
def nks : List D → List NestedKey
  | [] => []
  | d :: ds => nk d :: nks ds
end
mutual
theorem nk_eqv : ∀ (x y : D), hasList x = false → hasList y = false → NestedKey.beq (nk x) (nk y) = PyData.eqv x y
  | .none, y, _, h => by cases y <;> first | rfl | simp [hasList] at h | skip
  | .bool a, y, _, h => by
    cases y <;> first | (cases a <;> simp [nk, NestedKey.beq, PyData.eqv]; done) | skip
    · rename_i b
      cases a <;> cases b <;> rfl
    all_goals first | (simp [hasList] at h; done) | (cases a <;> simp [nk, NestedKey.beq, PyData.eqv, Bool.beq_eq_decide_eq] <;> rfl)
  | .int a, y, _, h => by
    cases y <;> first | (simp [nk, NestedKey.beq, PyData.eqv]; done) | skip
    · rename_i b
      simp only [nk, NestedKey.beq, PyData.eqv]
      rw [Bool.eq_iff_iff]; simp
    · simp only [nk, NestedKey.beq, PyData.eqv]
      rw [Bool.eq_iff_iff]; simp
    all_goals simp [hasList] at h
  | .str a, y, _, h => by
    cases y <;> first | (simp [nk, NestedKey.beq, PyData.eqv]; done) | skip
    · simp only [nk, NestedKey.beq, PyData.eqv]
      rw [Bool.eq_iff_iff]; simp
    all_goals simp [hasList] at h
  | .list _, _, h, _ => by simp [hasList] at h
  | .tuple xs, y, h, h' => by
    cases y with
    | tuple ys =>
      simp only [nk, NestedKey.beq, PyData.eqv]
      exact nks_eqv xs ys (by simpa only [hasList] using h) (by simpa only [hasList] using h')
    | list _ => simp [hasList] at h'
    | dict _ => simp [hasList] at h'
    | _ => simp [nk, NestedKey.beq, PyData.eqv]
  | .dict _, _, h, _ => by simp [hasList] at h
theorem nks_eqv : ∀ (xs ys : List D), hasListAll xs = false → hasListAll ys = false → NestedKey.beqAll (nks xs) (nks ys) = PyData.eqvAll xs ys
  | [], [], _, _ => rfl
  | [], _ :: _, _, _ => rfl
  | _ :: _, [], _, _ => rfl
  | x :: xs, y :: ys, h, h' => by
    simp only [hasListAll, Bool.or_eq_false_iff] at h h'
    simp only [nks, NestedKey.beqAll, PyData.eqvAll, nk_eqv x y h.1 h'.1, nks_eqv xs ys h.2 h'.2]
end
/-! ### each once -/
theorem nub_sub : ∀ {c : List D} {x : D}, x ∈ nub c → x ∈ c
  | [], _, h => by simp [nub] at h
  | y :: c, x, h => by
    simp only [nub, List.mem_cons, List.mem_filter] at h
    rcases h with h | h
    · rw [h]; exact List.mem_cons_self ..
    · exact List.mem_cons_of_mem _ (nub_sub h.1)
theorem nub_all : ∀ {c : List D} {x : D}, AllAlike c → x ∈ c → x ∈ nub c
  | [], _, _, h => by simp at h
  | y :: c, x, ha, h => by
    simp only [nub, List.mem_cons, List.mem_filter]
    rcases List.mem_cons.mp h with e | h
    · exact .inl e
    · by_cases hz : PyData.eqv y x = true
      · exact .inl (alk_eqv y x (ha y (List.mem_cons_self ..) x (List.mem_cons_of_mem _ h)) hz).symm
      · exact .inr ⟨nub_all (fun d hd d' hd' => ha d (List.mem_cons_of_mem _ hd) d' (List.mem_cons_of_mem _ hd')) h, by simpa using hz⟩
theorem nub_nodup : ∀ {c : List D}, (∀ x ∈ c, hasList x = false) → (nub c).Nodup
  | [], _ => List.nodup_nil
  | y :: c, h => by
    simp only [nub]
    refine List.nodup_cons.mpr ⟨fun z => ?_, (nub_nodup fun x hx => h x (List.mem_cons_of_mem _ hx)).filter _⟩
    have := (List.mem_filter.mp z).2
    rw [eqv_refl' y (h y (List.mem_cons_self ..))] at this
    cases this
/-- the order does not matter where all differ -/
theorem isort_perm {l m : List D} (hp : l.Perm m) (ha : AllAlike l) (hn : l.Nodup) (hl : ∀ x ∈ l, hasList x = false) : isort l = isort m := by
  have ha' : AllAlike m := fun d hd d' hd' => ha d (hp.mem_iff.mpr hd) d' (hp.mem_iff.mpr hd')
  rw [isort_merge ha']
  refine sort_unique dle_total (isort_sorted ha).1 fun c => ?_
  rw [(isort_sorted ha).2 c]
  have key : ∀ (f g : List D), f.Perm g → (∀ x ∈ f, ∀ y ∈ f, x = y) → f.Nodup → f = g := fun f g hfg h1 hnd => by
    match f, hfg, h1, hnd with
    | [], hfg, _, _ => exact (List.nil_perm.mp hfg).symm
    | [x], hfg, _, _ => exact List.singleton_perm.mp hfg
    | x :: y :: r, _, h1, hnd =>
      have := h1 x (List.mem_cons_self ..) y (List.mem_cons_of_mem _ (List.mem_cons_self ..))
      rw [this] at hnd
      simp at hnd
  refine key _ _ (hp.filter _) (fun x hx y hy => ?_) (hn.filter _)
  obtain ⟨hx1, hx2⟩ := List.mem_filter.mp hx
  obtain ⟨hy1, hy2⟩ := List.mem_filter.mp hy
  unfold sameRank at hx2 hy2
  rw [Bool.and_eq_true] at hx2 hy2
  have l1 := dle_total.trans x c y hx2.2 hy2.1
  have l2 := dle_total.trans y c x hy2.2 hx2.1
  rw [dle_eq] at l1 l2
  have a1 := ha x hx1 y hy1
  have a2 := ha y hy1 x hx1
  refine alk_lt x y a1 a2 (hl x hx1) (hl y hy1) ?_ ?_
  · rw [dlt_eq x y a1]; simpa using l2
  · rw [dlt_eq y x a2]; simpa using l1
/-- an order of images is an order of what they are of -/
theorem perm_lift {α β : Type} (f : α → β) : ∀ {L : List α} {l : List β}, l.Perm (L.map f) → ∃ L2 : List α, L2.Perm L ∧ l = L2.map f
  | [], l, h => ⟨[], .nil, by simpa using h⟩
  | a :: L, l, h => by
    rw [List.map_cons] at h
    obtain ⟨l1, l2, rfl⟩ := List.append_of_mem (h.mem_iff.mpr (List.mem_cons_self ..))
    have h2 : (l1 ++ l2).Perm (L.map f) := (List.perm_cons (f a)).mp (List.perm_middle.symm.trans h)
    obtain ⟨L2, p, e⟩ := perm_lift f h2
    obtain ⟨A, B, rfl, rfl, rfl⟩ := List.map_eq_append_iff.mp e.symm
    exact ⟨A ++ a :: B, List.perm_middle.trans (p.cons a), by simp⟩
end LP
set_option autoImplicit false
set_option linter.all false
set_option maxRecDepth 100000
set_option maxHeartbeats 3200000
/-! LPBag: the bag that set(xs) makes of alike keys (nested tuples, or texts), read by one predicate. -/
namespace LP
open PySem PySem.Spec PyProof.Rows L2
/-- a value with the key that it reads as -/
abbrev VK2 := Value × NestedKey
/-- tup: tuples at an address; else texts -/
def Rd (tup : Bool) (h : Heap) (p : VK2) : Prop := NestedIs h p.2 p.1 ∧ p.2.depth ≤ 8 ∧ (if tup = true then ∃ b, p.1 = .ref b else ∃ z u, p.1 = .str z u)
def rowOf (w : World) (p : VK2) : Int × Value := (p.2.hash w, p.1)
/-- how the table lies -/
def Lay : Bool → SetTable → List Int → Prop
  | true, t, hs => TabOk t hs ∧ hs.length * 5 < t.mask * 3
  | false, t, hs => Ris t.place.toList ∧ t.fits hs.length = true
theorem Lay.ris {tup : Bool} {t : SetTable} {hs : List Int} (y : Lay tup t hs) : Ris t.place.toList := by
  cases tup
  · exact y.1
  · exact y.1.ris
theorem Lay.fits {tup : Bool} {t : SetTable} {hs : List Int} (y : Lay tup t hs) : t.fits hs.length = true := by
  cases tup
  · exact y.2
  · obtain ⟨T, r⟩ := y
    simp only [SetTable.fits, SetTable.fill, T.dm, T.sz, beq_self_eq_true, Bool.true_and, decide_eq_true_eq]
    show hs.length + 0 ≤ t.mask
    omega
structure Bag (w : World) (tup : Bool) (h : Heap) (a : Addr) (L : List VK2) (es : Array (Int × Value)) (ep : Nat) (t : SetTable) : Prop where
  here : ∃ o, h.get? a = some o ∧ o.ExactSet ∧ o.data = .set es ep t
  rows : es.toList = L.map (rowOf w)
  lay : Lay tup t (L.map fun p => p.2.hash w)
  once : (L.map (·.2)).Nodup
  reads : ∀ p ∈ L, Rd tup h p
  walk : w.params.followText "set-order" = true ∨ t.led = true
  few : L.length ≤ 63
section
variable {P : Program} {w : World} {A : Around} {E : Value → Shared → Prop} {s : Shared} {tup : Bool}
variable {a : Addr} {L : List VK2} {es : Array (Int × Value)} {ep : Nat} {t : SetTable}
theorem Bag.count {h : Heap} (B : Bag w tup h a L es ep t) : es.size = L.length := by
  rw [← Array.length_toList, B.rows, List.length_map]
theorem Bag.fit {h : Heap} (B : Bag w tup h a L es ep t) : t.fits es.size = true := by
  have y := B.lay.fits
  rw [List.length_map] at y
  rw [B.count]; exact y
theorem Rd.on {h h' : Heap} {p : VK2} (x : Rd tup h p) (k : ∀ b o vs n, h.get? b = some o → o.data = .seq vs n → h'.get? b = some o) : Rd tup h' p := ⟨NestedIs.at k _ _ x.1, x.2⟩
theorem Rd.up {h h' : Heap} {p : VK2} (x : Rd tup h p) (k : ∀ b o, h.get? b = some o → h'.get? b = some o) : Rd tup h' p := x.on fun b o _ _ e _ => k b o e
theorem Bag.up {h h' : Heap} (B : Bag w tup h a L es ep t) (k : ∀ o, h.get? a = some o → h'.get? a = some o) (r : ∀ p ∈ L, Rd tup h' p) : Bag w tup h' a L es ep t :=
  let ⟨o, e, z⟩ := B.here
  ⟨⟨o, k o e, z⟩, B.rows, B.lay, B.once, r, B.walk, B.few⟩
/-- a heap with the set at a laid anew reads its tuples as before -/
theorem Rd.relaid {h : Heap} {p : VK2} {o : Obj} {e2 : Array (Int × Value)} {t2 : SetTable} (x : Rd tup h p) (at_ : h.get? a = some o) (dat : o.data = .set es ep t) : Rd tup (h.update a (Obj.putSet e2 t2)) p :=
  x.on fun b o' vs n e d => by
    have ne : b ≠ a := fun z => by
      subst z
      rw [at_] at e
      cases e
      rw [dat] at d
      cases d
    exact ((Heap.SameBut.update h a (Obj.putSet e2 t2)).2 b ne).trans e
theorem Bag.laid {h : Heap} {o : Obj} (at_ : h.get? a = some o) (ex : o.ExactSet) (dat : o.data = .set es ep t) {L2 : List VK2} {e2 : Array (Int × Value)} {t2 : SetTable} (rows : e2.toList = L2.map (rowOf w))
    (lay : Lay tup t2 (L2.map fun p => p.2.hash w)) (once : (L2.map (·.2)).Nodup) (reads : ∀ p ∈ L2, Rd tup h p) (walk : w.params.followText "set-order" = true ∨ t2.led = true) (few : L2.length ≤ 63) :
    Bag w tup (h.update a (Obj.putSet e2 t2)) a L2 e2 (ep + 1) t2 :=
  ⟨⟨_, store_at at_ dat, ⟨ex.1, ex.2.1, ex.2.2⟩, rfl⟩, rows, lay, once, fun p hp => (reads p hp).relaid at_ dat, walk, few⟩
/-! ### loops that look only -/
theorem loop_same {M : Model} {β : Type} (b0 : β) (g : Value → β → Sem (ForInStep β)) {Q : β → Shared → Prop} (q : Q b0 s) :
    ∀ (vs : List Value), (∀ v ∈ vs, ∀ R : ForInStep β → Shared → Prop, R (.yield b0) s → wpAny M A (g v b0) R E s) → wpAny M A (forIn vs b0 g) Q E s
  | [], _ => by rw [List.forIn_nil]; exact wpAny_pure q
  | v :: vs, hg => by
    rw [List.forIn_cons]
    exact wpAny_bind (hg v List.mem_cons_self _ (loop_same b0 g q vs fun u hu => hg u (List.mem_cons_of_mem _ hu)))
theorem loop_any {M : Model} {β : Type} (g : Value → β → Sem (ForInStep β)) {Q : β → Shared → Prop} (q : ∀ b, Q b s) :
    ∀ (vs : List Value) (b : β), (∀ v ∈ vs, ∀ b (R : ForInStep β → Shared → Prop), (∀ r, R r s) → wpAny M A (g v b) R E s) → wpAny M A (forIn vs b g) Q E s
  | [], b, _ => by rw [List.forIn_nil]; exact wpAny_pure (q b)
  | v :: vs, b, hg => by
    rw [List.forIn_cons]
    refine wpAny_bind (hg v List.mem_cons_self b _ fun r => ?_)
    cases r with
    | done b' => exact wpAny_pure (q b')
    | yield b' => exact loop_any g q vs b' fun u hu => hg u (List.mem_cons_of_mem _ hu)
theorem items_read {h : Heap} : ∀ {ks : List NestedKey} {vs : List Value}, NestedAll h ks vs → ∀ v ∈ vs, ∃ k, NestedIs h k v ∧ k.depth ≤ NestedKey.depthAll ks
  | _, _, .nil, v, hv => nomatch hv
  | k :: ks, u :: us, .cons x y, v, hv => by
    have d : NestedKey.depthAll (k :: ks) = max k.depth (NestedKey.depthAll ks) := by simp only [NestedKey.depthAll]
    rw [d]
    cases hv with
    | head => exact ⟨k, x, Nat.le_max_left ..⟩
    | tail _ hv =>
      obtain ⟨k', x', l⟩ := items_read y v hv
      exact ⟨k', x', Nat.le_trans l (Nat.le_max_right ..)⟩
theorem no_class : ∀ (n : Nat) {k : NestedKey} {v : Value} {Q : Bool → Shared → Prop}, NestedIs s.heap k v → k.depth ≤ n → Q false s → wpAny (model P w) A (ofAClassStatement n v) Q E s
  | n, _, _, _, .none, _, q => by cases n <;> exact wpAny_pure q
  | n, _, _, _, .bool _, _, q => by cases n <;> exact wpAny_pure q
  | n, _, _, _, .int .., _, q => by cases n <;> exact wpAny_pure q
  | n, _, _, _, .text .., _, q => by cases n <;> exact wpAny_pure q
  | 0, .tup ks, _, _, .tup .., d, _ => by simp only [NestedKey.depth] at d; omega
  | n + 1, .tup ks, _, Q, @NestedIs.tup _ b o vs m _ e1 e2 e3 ins, d, q => by
    have d' : NestedKey.depthAll ks ≤ n := by simp only [NestedKey.depth] at d; omega
    unfold ofAClassStatement
    refine wpAny_bind (wpAny_typeOf ⟨o, e1, e2⟩ ?_)
    refine wpAny_bind (m := pure true) (wpAny_pure ?_)
    show wpAny _ _ (seqItems? (.ref b) >>= _) _ _ s
    refine wpAny_bind (wpAny_seqItems e1 e3 (wpAny_bind ?_))
    rw [← Array.forIn_toList]
    refine loop_same _ _ (by exact wpAny_pure q) _ fun v hv R r => ?_
    obtain ⟨k', x, l⟩ := items_read ins v hv
    exact wpAny_bind (no_class n x (Nat.le_trans l d') (wpAny_pure r))
theorem some_hash : ∀ (n : Nat) {k : NestedKey} {v : Value} {Q : Bool → Shared → Prop}, NestedIs s.heap k v → (∀ b, Q b s) → wpAny (model P w) A (hashByValue n v) Q E s
  | n, _, _, _, .none, q => by cases n <;> exact wpAny_pure (q _)
  | n, _, _, _, .bool _, q => by cases n <;> exact wpAny_pure (q _)
  | n, _, _, _, .int .., q => by cases n <;> exact wpAny_pure (q _)
  | n, _, _, _, .text .., q => by cases n <;> exact wpAny_pure (q _)
  | 0, _, _, _, .tup .., q => wpAny_pure (q _)
  | n + 1, .tup ks, _, Q, @NestedIs.tup _ b o vs m _ e1 e2 e3 ins, q => by
    unfold hashByValue
    refine wpAny_bind (wpAny_specialOf ⟨o, e1, e2⟩ PySem.F.slot_tuple_hash.lookup ?_)
    show wpAny _ _ (seqItems? (.ref b) >>= _) _ _ s
    refine wpAny_bind (wpAny_seqItems e1 e3 (wpAny_bind ?_))
    show wpAny _ _ (forIn vs _ _) _ _ s
    rw [← Array.forIn_toList]
    refine loop_any _ (fun r => ?_) _ _ fun v hv r R all => ?_
    · obtain ⟨r1, r2⟩ := r
      cases r1 <;> exact wpAny_pure (q _)
    · obtain ⟨k', x, _⟩ := items_read ins v hv
      refine wpAny_bind (some_hash n x fun y => ?_)
      cases y <;> exact wpAny_pure (all _)
theorem not_seen {x : VK2} {Q : Bool → Shared → Prop} (hx : Rd true s.heap x) {ys : List Value} (hy : ∀ y ∈ ys, ∃ k, Rd true s.heap (y, k)) (q : Q false s) : wpAny (model P w) A (searchCouldBeSeen x.1 ys) Q E s := by
  obtain ⟨v, k⟩ := x
  obtain ⟨i1, i2, b, rfl⟩ := hx
  unfold searchCouldBeSeen
  refine wpAny_bind (loop_same _ _ (by exact wpAny_pure q) ys fun y hym R r => ?_)
  obtain ⟨k', j1, j2, c, rfl⟩ := hy y hym
  dsimp only at i1 i2 j1 j2 ⊢
  split
  · exact wpAny_pure r
  · exact wpAny_bind ((nestedKind P w).quiet (k := k) ⟨i1, i2⟩ (wpAny_bind ((nestedKind P w).quiet (k := k') ⟨j1, j2⟩ (wpAny_bind (no_class 8 i1 i2 (wpAny_bind (no_class 8 j1 j2 (wpAny_pure r))))))))
end
end LP
set_option autoImplicit false
set_option linter.all false
set_option maxRecDepth 100000
set_option maxHeartbeats 3200000
/-! LPBag2: one more key put into a bag: tuples by the search, texts by the scan. -/
namespace LP
open PySem PySem.Spec PyProof.Rows L2
section
variable {P : Program} {w : World} {A : Around} {E : Value → Shared → Prop} {s : Shared}
variable {a : Addr} {L : List VK2} {es : Array (Int × Value)} {ep : Nat} {t : SetTable}
/-- the n-th step of the way of a hash -/
abbrev stepAt (t : SetTable) (h : Int) (n : Nat) : SetTable.Probe := nth t.mask (runAt t.mask (SetTable.bits h % (t.mask + 1)) (SetTable.bits h)) n
theorem step_clear (t : SetTable) (h : Int) (n : Nat) : (stepAt t h n).dummy = none := by
  suffices z : ∀ (n : Nat) (p : SetTable.Probe), p.dummy = none → (nth t.mask p n).dummy = none from z n _ rfl
  intro n
  induction n with
  | zero => intro p hp; exact hp
  | succ n ih => intro p hp; exact ih _ (by unfold adv; split <;> exact hp)
theorem step_more (t : SetTable) (h : Int) (c q : Nat) : nth t.mask (stepAt t h c) q = stepAt t h (c + q) := (nth_add t.mask c _ q).symm
/-- no key before the c-th step is k -/
def Clean (t : SetTable) (L : List VK2) (h : Int) (k : NestedKey) (c : Nat) : Prop := ∀ (q i : Nat) (p : VK2), q < c → t.place.toList[i]? = some (way t.mask h q) → L[i]? = some p → p.2 ≠ k
theorem seek (B : Bag w true s.heap a L es ep t) {x : VK2} (hx : Rd true s.heap x) (room : A.units + 8 < cLine) {K : Nat} (hK : way t.mask (x.2.hash w) K ∉ t.place.toList)
    (before : ∀ c, c < K → way t.mask (x.2.hash w) c ∈ t.place.toList) (near : K < 10 * SetTable.turns t.mask) {Q : SetFound → Shared → Prop}
    (yes : x.2 ∈ L.map (·.2) → Q (.there none) s) (no : x.2 ∉ L.map (·.2) → Q (.free (way t.mask (x.2.hash w) K) false) s) :
    ∀ (d c f : Nat) (stand : Option SetTable.Probe), c + d = K → d < f → stand.getD (t.probeStart (x.2.hash w)) = stepAt t (x.2.hash w) c → Clean t L (x.2.hash w) x.2 c →
      wpAny (model P w) A (setSearchFrom a x.1 (x.2.hash w) true f stand) Q E s := by
  intro d
  induction d using Nat.strongRecOn with
  | ind d ih =>
    intro c f stand hcd hdf hst clean
    obtain ⟨f, rfl⟩ : ∃ g, f = g + 1 := ⟨f - 1, by omega⟩
    obtain ⟨o, at_, ex, dat⟩ := B.here
    have T := B.lay.1
    have entry : ∀ {i : Nat} {p : VK2}, L[i]? = some p → es[i]? = some (rowOf w p) := fun e => by
      rw [← Array.getElem?_toList, B.rows, List.getElem?_map, e]; rfl
    have stored : ∀ {i : Nat} {p : VK2}, L[i]? = some p → ((es[i]?.map fun e => e.1).getD 0) = p.2.hash w := fun e => by rw [entry e]; rfl
    rw [setSearchFrom_succ]
    refine wpAny_bind (wpAny_setState_of at_ dat B.fit ?_)
    refine wp_if_neg (show ¬ t.gaveWay = true by unfold SetTable.gaveWay; rw [mask_odd T.mok]; decide) ?_
    rw [hst]
    have met := go_spec t T.ris T.dm (fun i => (es[i]?.map fun e => e.1).getD 0) (x.2.hash w) (10 * SetTable.turns t.mask) d (stepAt t (x.2.hash w) c) (step_clear ..) (by omega)
      (fun q hq => by rw [step_more]; exact before _ (by omega)) (by rw [step_more, hcd]; exact hK)
    simp only [step_more] at met
    rcases met with ⟨q, i, hq, hi, hh, other, found⟩ | ⟨other, found⟩
    · have found : t.probe (fun i => (es[i]?.map fun e => e.1).getD 0) (x.2.hash w) (stepAt t (x.2.hash w) c) = some (.candidate (way t.mask (x.2.hash w) (c + q)) i (stepAt t (x.2.hash w) (c + (q + 1)))) := found
      rw [found]
      have hi' : t.slot (way t.mask (x.2.hash w) (c + q)) = .live i := slot_live T.ris hi
      have inL : i < L.length := by
        have := (List.getElem?_eq_some_iff.mp hi).1
        have sz := T.sz
        rw [List.length_map] at sz
        rwa [Array.length_toList, sz] at this
      obtain ⟨p, hp⟩ : ∃ p, L[i]? = some p := ⟨_, List.getElem?_eq_getElem inL⟩
      have hpL := List.mem_of_getElem? hp
      have go : wpAny (model P w) A (searchRest a x.1 (x.2.hash w) true f es t (way t.mask (x.2.hash w) (c + q)) i (stepAt t (x.2.hash w) (c + (q + 1)))) Q E s := by
        obtain ⟨v, k⟩ := x
        obtain ⟨x1, x2, b, rfl⟩ := id hx
        obtain ⟨u, k'⟩ := p
        obtain ⟨p1, p2, b', rfl⟩ := B.reads _ hpL
        unfold searchRest
        rw [entry hp]
        refine wpAny_bind (wpAny_holding ((nestedKind P w).eqBool (x := k') (y := k) room ⟨p1, p2⟩ ⟨x1, x2⟩ ?_))
        refine wpAny_bind (wpAny_setState_of at_ dat B.fit ?_)
        by_cases same : k' = k
        · refine wp_if_pos (by rw [decide_eq_true same]; rfl) (wpAny_pure (yes ?_))
          exact List.mem_map.mpr ⟨_, hpL, same⟩
        · refine wp_if_neg (by rw [decide_eq_false same]; decide) ?_
          rw [L2.sameMem]
          simp only [hi', if_true, entry hp]
          refine wpAny_bind (wpAny_isSame_ref_self (wpAny_bind (wpAny_pure ?_)))
          simp only [if_true]
          refine wp_if_neg (by rw [decide_eq_false same]; decide) (ih (d - (q + 1)) (by omega) (c + (q + 1)) f _ (by omega) (by omega) rfl ?_)
          intro q' i' p' hq' hi2 hp' e
          rcases Nat.lt_or_ge q' c with z | z
          · exact clean q' i' p' z hi2 hp' e
          · obtain ⟨m, rfl⟩ : ∃ m, q' = c + m := ⟨q' - c, by omega⟩
            rcases Nat.lt_or_ge m q with z2 | z2
            · exact other m i' z2 hi2 (by rw [stored hp', e])
            · have : m = q := by omega
              subst this
              have z3 := slot_live T.ris hi2
              rw [hi'] at z3
              cases z3
              rw [hp] at hp'
              cases hp'
              exact same e
      by_cases led : t.led = true
      · exact wp_if_neg (by rw [led]; decide) go
      · refine wp_if_pos (by simpa using led) (wpAny_bind (not_seen hx (fun y hy => ?_) (wp_if_neg (by decide) go)))
        obtain ⟨en, he, rfl⟩ := List.mem_map.mp hy
        have he : en ∈ es.toList := by
          have := (Array.mem_filter.mp (Array.mem_def.mpr he)).1
          exact Array.mem_def.mp this
        rw [B.rows] at he
        obtain ⟨p2, hp2, rfl⟩ := List.mem_map.mp he
        exact ⟨p2.2, B.reads p2 hp2⟩
    · have found : t.probe (fun i => (es[i]?.map fun e => e.1).getD 0) (x.2.hash w) (stepAt t (x.2.hash w) c) = some (.empty (way t.mask (x.2.hash w) (c + d)) none) := found
      rw [found, hcd]
      refine wpAny_pure (no fun mem => ?_)
      obtain ⟨p, hp, e⟩ := List.mem_map.mp mem
      obtain ⟨i, hi⟩ := List.mem_iff_getElem?.mp hp
      have hh : (L.map fun p => p.2.hash w)[i]? = some (x.2.hash w) := by rw [List.getElem?_map, hi, ← e]; rfl
      obtain ⟨j, hj⟩ : ∃ j, t.place.toList[i]? = some j := by
        refine ⟨_, List.getElem?_eq_getElem ?_⟩
        rw [Array.length_toList, T.sz]
        exact (List.getElem?_eq_some_iff.mp hh).1
      obtain ⟨q, hq, rfl⟩ := T.before hK hh hj
      rcases Nat.lt_or_ge q c with z | z
      · exact clean q i p z hj hi e
      · refine other (q - c) i (by omega) ?_ (by rw [stored hi, e])
        rw [hj, show c + (q - c) = q by omega]
end
end LP
set_option autoImplicit false
set_option linter.all false
set_option maxRecDepth 100000
set_option maxHeartbeats 3200000
/-! LPBag3: one more key put into a bag. -/
namespace LP
open PySem PySem.Spec PyProof.Rows L2
section
variable {P : Program} {w : World} {A : Around} {E : Value → Shared → Prop} {s : Shared} {tup : Bool}
variable {a : Addr} {L : List VK2} {es : Array (Int × Value)} {ep : Nat} {t : SetTable}
/-- the bag behind, with x in it -/
def Put (w : World) (tup : Bool) (a : Addr) (L : List VK2) (x : VK2) (h : Heap) : Prop :=
  ∃ L' es' ep' t', Bag w tup h a L' es' ep' t' ∧ (x.2 ∈ L.map (·.2) → L' = L) ∧ (x.2 ∉ L.map (·.2) → L'.Perm (x :: L))
def noVK : VK2 := (.none, .none)
theorem pick_rows (hr : es.toList = L.map (rowOf w)) (od : Array Nat) (hb : ∀ i ∈ od.toList, i < L.length) : (od.filterMap (es[·]?)).toList = (od.toList.map fun i => L.getD i noVK).map (rowOf w) := by
  rw [Array.toList_filterMap]
  generalize od.toList = l at hb
  induction l with
  | nil => rfl
  | cons i l ih =>
    have hi := hb i List.mem_cons_self
    have e : es[i]? = some (rowOf w (L.getD i noVK)) := by
      rw [← Array.getElem?_toList, hr, List.getElem?_map, List.getElem?_eq_getElem hi, List.getD_eq_getElem?_getD, List.getElem?_eq_getElem hi]; rfl
    rw [List.filterMap_cons_some e, ih fun j hj => hb j (List.mem_cons_of_mem _ hj)]; rfl
theorem perm_pick {l : List Nat} (h : l.Perm (List.range L.length)) : (l.map fun i => L.getD i noVK).Perm L := by
  refine (h.map _).trans (List.Perm.of_eq (List.ext_getElem (by simp) fun i h1 h2 => ?_))
  rw [List.getElem_map, List.getElem_range, List.getD_eq_getElem?_getD, List.getElem?_eq_getElem h2]; rfl
theorem relay_bag {o : Obj} (at_ : s.heap.get? a = some o) (ex : o.ExactSet) (dat : o.data = .set es ep t) (fit : t.fits es.size = true) (rows : es.toList = L.map (rowOf w)) (once : (L.map (·.2)).Nodup) (reads : ∀ p ∈ L, Rd true s.heap p)
    (walk : w.params.followText "set-order" = true ∨ t.led = true) (few : L.length ≤ 63) {M wanted : Nat} (hw : SetTable.sizeAbove wanted = M + 1) (hM : MaskOk M) (hn : L.length * 5 < M * 3) {Q : Unit → Shared → Prop}
    (q : ∀ h L' es' ep' t', Heap.SameBut a s.heap h → Bag w true h a L' es' ep' t' → L'.Perm L → Q () { s with heap := h }) : wpAny (model P w) A (setRelay a wanted) Q E s := by
  have size : es.size = L.length := by rw [← Array.length_toList, rows, List.length_map]
  have mSmall : M ≤ 127 := by rcases hM with e | e | e <;> omega
  obtain ⟨t2, od, found, pm, tab, mask, led, _, _⟩ := relaid_ok t (hs := es.map fun e => e.1) (wanted := wanted) (by rw [hw]; rfl) hM (by rw [Array.size_map, size]; omega)
  rw [Array.size_map, size] at pm
  have bd : ∀ i ∈ od.toList, i < L.length := fun i hi => List.mem_range.mp (pm.mem_iff.mp hi)
  have rows2 := pick_rows rows od bd
  have pm2 := perm_pick (L := L) pm
  generalize hL2 : (od.toList.map fun i => L.getD i noVK) = L2 at rows2 pm2
  have hashes : (od.toList.map fun i => (es.map fun e => e.1).getD i 0) = L2.map fun p => p.2.hash w := by
    rw [← hL2, List.map_map]
    refine List.map_congr_left fun i hi => ?_
    have z := bd i hi
    have e : es[i]? = some (rowOf w L[i]) := by rw [← Array.getElem?_toList, rows, List.getElem?_map, List.getElem?_eq_getElem z]; rfl
    rw [Array.getD_eq_getD_getElem?, Array.getElem?_map, e]
    show (L[i].2.hash w) = ((L.getD i noVK).2.hash w)
    rw [List.getD_eq_getElem?_getD, List.getElem?_eq_getElem z]; rfl
  rw [hashes] at tab
  have size2 : (od.filterMap (es[·]?)).size = es.size := by rw [← Array.length_toList, rows2, List.length_map, pm2.length_eq, size]
  rw [setRelay_eq]
  refine wpAny_bind (wpAny_setState_of at_ dat fit ?_)
  refine wp_if_neg (by rw [hw, sizeLine_eq]; omega) ?_
  rw [found]
  refine wpAny_bind (wp_if_neg (by rw [size2]; simp) (wpAny_pure ?_))
  have l2 := pm2.length_eq
  exact wpAny_storeSet_of at_ dat (q _ L2 _ _ t2 (Heap.SameBut.update ..) (Bag.laid at_ ex dat rows2 ⟨tab, by rw [List.length_map, l2, mask]; exact hn⟩ ((pm2.map _).nodup_iff.mpr once) (fun p hp => reads p (pm2.mem_iff.mp hp)) (by rw [led]; exact walk) (by omega)) pm2)
    (by rw [size2, size, sizeLine_eq]; omega)
theorem ins_perm {α : Type} (l : List α) (n : Nat) (x : α) : (l.take n ++ x :: l.drop n).Perm (x :: l) := by
  refine List.perm_middle.trans ?_
  rw [List.take_append_drop]
theorem add_tup (B : Bag w true s.heap a L es ep t) {x : VK2} (hx : Rd true s.heap x) (room : A.units + 8 < cLine) (few : L.length + 1 ≤ 63) {Q : Bool → Shared → Prop}
    (q : ∀ b h, Heap.SameBut a s.heap h → Put w true a L x h → Q b { s with heap := h }) : wpAny (model P w) A (setAddHashed a x.1 (x.2.hash w)) Q E s := by
  obtain ⟨o, at_, ex, dat⟩ := B.here
  obtain ⟨T, wide⟩ := B.lay
  rw [List.length_map] at wide
  obtain ⟨K, near, hK, before⟩ := T.first (by rw [List.length_map]; omega) (x.2.hash w)
  have near2 : K < 100000 := by
    have : 10 * SetTable.turns t.mask ≤ 1420 := by rcases T.mok with e | e | e <;> rw [e] <;> decide
    omega
  have ref : x.1.scannable = false := by obtain ⟨_, _, b, e⟩ := hx; rw [e]; rfl
  unfold setAddHashed
  show wpAny _ _ (holding [x.1] (setAddHashedIn a x.1 (x.2.hash w) (99999 + 1))) _ _ _
  rw [setAddHashedIn_succ]
  refine wpAny_holding (wpAny_bind (wpAny_setState_of at_ dat B.fit (wp_if_neg (by unfold byScan; rw [ref]; simp) (wpAny_bind ?_))))
  unfold setSearch
  refine seek B hx room hK before near (fun mem => wpAny_pure (q _ _ (Heap.SameBut.refl ..) ⟨L, es, ep, t, B, fun _ => rfl, fun z => absurd mem z⟩)) (fun mem => ?_) K 0 100000 none (by omega) near2 rfl fun q i p hq => absurd hq (Nat.not_lt_zero _)
  refine wpAny_bind (wpAny_setState_of at_ dat B.fit ?_)
  dsimp only
  obtain ⟨e1, le, tab, mask, led, _, _, _, fill⟩ := T.put hK before
  generalize t.put (way t.mask (x.2.hash w) K) = z at e1 tab mask led fill ⊢
  obtain ⟨t1, n⟩ := z
  dsimp only at e1 tab mask led fill ⊢
  rw [← e1] at tab
  rw [List.length_map] at fill
  clear e1 le hK before
  have pm := ins_perm L n x
  have rows1 : (SetTable.insertAt es n (x.2.hash w, x.1)).toList = (L.take n ++ x :: L.drop n).map (rowOf w) := by
    rw [SetTable.toList_insertAt, B.rows, List.map_append, ← List.map_take, List.map_cons, ← List.map_drop]; rfl
  have tab1 : TabOk t1 ((L.take n ++ x :: L.drop n).map fun p => p.2.hash w) := by
    rw [List.map_append, List.map_take, List.map_cons, List.map_drop]; exact tab
  generalize L.take n ++ x :: L.drop n = L1 at pm rows1 tab1
  generalize SetTable.insertAt es n (x.2.hash w, x.1) = es1 at rows1 ⊢
  have len1 := pm.length_eq
  rw [List.length_cons] at len1
  have size1 : es1.size = L.length + 1 := by rw [← Array.length_toList, rows1, List.length_map, len1]
  have once1 : (L1.map (·.2)).Nodup := by rw [(pm.map (·.2)).nodup_iff]; exact List.nodup_cons.mpr ⟨mem, B.once⟩
  have reads1 : ∀ p ∈ L1, Rd true s.heap p := fun p hp => by
    cases pm.mem_iff.mp hp with
    | head => exact hx
    | tail _ z => exact B.reads p z
  -- whichever way `plain` goes
  have rest : ∀ t2 : SetTable, TabOk t2 (L1.map fun p => p.2.hash w) → t2.mask = t.mask → t2.led = t.led → t2.fill = L.length + 1 →
      wpAny (model P w) A (storeSet a es1 t2) (fun _ s' => wpAny (model P w) A (if (!false && t2.tooFull) = true then setRelay a (SetTable.grown (es.size + 1)) >>= fun _ => pure true else pure true) Q E s') E s := by
    intro t2 tab2 m2 l2 f2
    have walk2 : w.params.followText "set-order" = true ∨ t2.led = true := by rw [l2]; exact B.walk
    refine wpAny_storeSet_of at_ dat ?_ (by rw [size1, sizeLine_eq]; omega)
    have at1 := store_at (es' := es1) (t' := t2) at_ dat
    have sb := Heap.SameBut.update s.heap a (Obj.putSet es1 t2)
    have fit2 : t2.fits es1.size = true := by
      have z := T.mok
      simp only [SetTable.fits, f2, size1, Bool.and_eq_true, beq_iff_eq, decide_eq_true_eq]
      refine ⟨by rw [tab2.sz, List.length_map, len1], ?_⟩
      rw [m2]
      rcases z with z | z | z <;> rw [z] at wide ⊢ <;> omega
    by_cases full : (L.length + 1) * 5 ≥ t.mask * 3
    · refine wp_if_pos (by unfold SetTable.tooFull; rw [f2, m2]; simpa using full) (wpAny_bind ?_)
      have grow : ∃ M, SetTable.sizeAbove (SetTable.grown (es.size + 1)) = M + 1 ∧ MaskOk M ∧ L1.length * 5 < M * 3 := by
        rw [B.count, len1]
        rcases T.mok with z | z | z <;> rw [z] at wide full
        · rw [show L.length = 4 by omega]; exact ⟨31, size_20, .inr (.inl rfl), by decide⟩
        · rw [show L.length = 18 by omega]; exact ⟨127, size_76, .inr (.inr rfl), by decide⟩
        · omega
      obtain ⟨M, hw, hM, hn⟩ := grow
      exact relay_bag (s := { s with heap := s.heap.update a (Obj.putSet es1 t2) }) at1 ⟨ex.1, ex.2.1, ex.2.2⟩ rfl fit2 rows1 once1 (fun p hp => (reads1 p hp).relaid at_ dat) walk2 (by omega) hw hM hn
        fun h L' es' ep' t' sb2 B2 pm2 => wpAny_pure (q true h (sb.trans sb2) ⟨L', es', ep', t', B2, fun z => absurd z mem, fun _ => pm2.trans pm⟩)
    · refine wp_if_neg (by unfold SetTable.tooFull; rw [f2, m2]; simpa using full) (wpAny_pure (q true _ sb ⟨L1, es1, ep + 1, t2, ?_, fun z => absurd z mem, fun _ => pm⟩))
      exact Bag.laid at_ ex dat rows1 ⟨tab2, by rw [List.length_map, len1, m2]; omega⟩ once1 reads1 walk2 (by omega)
  have both : ∀ b : Bool, wpAny (model P w) A (storeSet a es1 (if b = true then t1 else { t1 with plain := false })) (fun _ s' => wpAny (model P w) A (if (!false && (if b = true then t1 else { t1 with plain := false } : SetTable).tooFull) = true then setRelay a (SetTable.grown (es.size + 1)) >>= fun _ => pure true else pure true) Q E s') E s := fun b => by
    cases b
    · exact rest _ ⟨tab1.ris, tab1.dm, tab1.sz, tab1.mok, tab1.bd, tab1.reach⟩ mask led fill
    · exact rest _ tab1 mask led fill
  by_cases plain : t1.plain = true
  · refine wp_if_pos plain (wpAny_bind (some_hash 8 hx.1 fun b => wpAny_bind ?_))
    exact both b
  · refine wp_if_neg plain (wpAny_bind (wpAny_pure (wpAny_bind ?_)))
    exact both true
end
end LP
set_option autoImplicit false
set_option linter.all false
set_option maxRecDepth 100000
set_option maxHeartbeats 3200000
/-! LPBag4: texts put into a bag; set(xs) of a list or a tuple. -/
namespace LP
open PySem PySem.Spec PyProof.Rows L2
section
variable {P : Program} {w : World} {A : Around} {E : Value → Shared → Prop} {s : Shared} {tup : Bool}
variable {a : Addr} {L : List VK2} {es : Array (Int × Value)} {ep : Nat} {t : SetTable}
theorem Rd.text {h : Heap} {p : VK2} (x : Rd false h p) : ∃ z u, p = (.str z u, .text z) := by
  obtain ⟨v, k⟩ := p
  obtain ⟨x1, _, z, u, rfl⟩ := x
  cases x1
  exact ⟨z, u, rfl⟩
theorem bag_text {o : Obj} (at_ : s.heap.get? a = some o) (ex : o.ExactSet) (dat : o.data = .set es ep t) {L1 : List VK2} {e1 : Array (Int × Value)} {t1 : SetTable} (pm : e1.toList.Perm (L1.map (rowOf w))) (fit : t1.fits e1.size = true)
    (ris : Ris t1.place.toList) (once : (L1.map (·.2)).Nodup) (reads : ∀ p ∈ L1, Rd false s.heap p) (walk : w.params.followText "set-order" = true ∨ t1.led = true) (few : L1.length ≤ 63) :
    ∃ L', L'.Perm L1 ∧ Bag w false (s.heap.update a (Obj.putSet e1 t1)) a L' e1 (ep + 1) t1 := by
  obtain ⟨L', pm', rows⟩ := perm_lift (rowOf w) pm
  have size : e1.size = L'.length := by rw [← Array.length_toList, rows, List.length_map]
  refine ⟨L', pm', Bag.laid at_ ex dat rows ⟨ris, by rw [List.length_map, ← size]; exact fit⟩ ((pm'.map _).nodup_iff.mpr once) (fun p hp => reads p (pm'.mem_iff.mp hp)) walk (by rw [pm'.length_eq]; exact few)⟩
theorem add_text (B : Bag w false s.heap a L es ep t) {x : VK2} (hx : Rd false s.heap x) (few : L.length + 1 ≤ 63) {Q : Bool → Shared → Prop}
    (q : ∀ b h, Heap.SameBut a s.heap h → Put w false a L x h → Q b { s with heap := h }) : wpAny (model P w) A (setAddHashed a x.1 (x.2.hash w)) Q E s := by
  obtain ⟨o, at_, ex, dat⟩ := B.here
  obtain ⟨z, u, rfl⟩ := hx.text
  have small : es.size < scanBound := by rw [B.count]; unfold scanBound; omega
  have each : ∀ e ∈ es.toList, ∃ z' u', (z' : Str) = z' ∧ e = rowOf w (.str z' u', .text z') ∧ ((Value.str z' u', NestedKey.text z') : VK2) ∈ L := fun e he => by
    rw [B.rows] at he
    obtain ⟨p, hp, rfl⟩ := List.mem_map.mp he
    obtain ⟨z', u', rfl⟩ := (B.reads p hp).text
    exact ⟨z', u', rfl, rfl, hp⟩
  have elems : ElemsOf (strKind P w) es.toList := fun e he => by
    obtain ⟨z', u', _, rfl, _⟩ := each e he
    exact ⟨⟨z', strKind_is P w z' u', rfl⟩, rfl⟩
  unfold setAddHashed
  show wpAny _ _ (holding [Value.str z u] (setAddHashedIn a (.str z u) ((strKind P w).hash z) (99999 + 1))) _ _ _
  rw [setAddHashedIn_succ]
  refine wpAny_holding (wpAny_bind (wpAny_setState_of at_ dat B.fit (wp_if_pos (byScan_of (knd := strKind P w) rfl small elems) (wpAny_bind ?_))))
  unfold setAddByScan
  refine wpAny_bind (wpAny_rule (wpAny_bind (wpAny_setScan_of (knd := strKind P w) (k := z) (strKind_is P w z u) at_ dat B.fit elems ?_)))
  cases found : es.toList.findIdx? fun e => (strKind P w).is z e.2 with
  | some j =>
    refine wpAny_pure (wpAny_pure (q _ _ (Heap.SameBut.refl ..) ⟨L, es, ep, t, B, fun _ => rfl, fun no => (no ?_).elim⟩))
    obtain ⟨hj, is, _⟩ := List.findIdx?_eq_some_iff_getElem.mp found
    obtain ⟨z', u', _, e, hp⟩ := each _ (List.getElem_mem hj)
    rw [e] at is
    have : z' = z := (strKind P w).inj _ _ _ (strKind_is P w z' u') is
    exact List.mem_map.mpr ⟨_, hp, by rw [this]⟩
  | none =>
    have new : (NestedKey.text z) ∉ L.map (·.2) := fun mem => by
      obtain ⟨p, hp, e⟩ := List.mem_map.mp mem
      obtain ⟨z', u', rfl⟩ := (B.reads p hp).text
      cases e
      have := List.findIdx?_eq_none_iff.mp found (rowOf w (.str z u', .text z)) (by rw [B.rows]; exact List.mem_map.mpr ⟨_, hp, rfl⟩)
      exact Bool.noConfusion (this.symm.trans (strKind_is P w z u'))
    have once1 : (((Value.str z u, NestedKey.text z) :: L).map (·.2)).Nodup := List.nodup_cons.mpr ⟨new, B.once⟩
    have reads1 : ∀ p ∈ (Value.str z u, NestedKey.text z) :: L, Rd false s.heap p := fun p hp => by
      cases hp with
      | head => exact hx
      | tail _ m => exact B.reads p m
    have pm := layNew_perm t es ((strKind P w).hash z) (.str z u)
    have fit1 := layNew_fits t es ((strKind P w).hash z) (.str z u)
    have ris1 := layNew_ris t es ((strKind P w).hash z) (.str z u) B.lay.1
    have led1 := layNew_led t es ((strKind P w).hash z) (.str z u)
    generalize layNew t es ((strKind P w).hash z) (.str z u) = lay at pm fit1 ris1 led1 ⊢
    obtain ⟨es1, t1, dummy, gave⟩ := lay
    dsimp only at pm fit1 ris1 led1 ⊢
    rw [Array.toList_push, B.rows] at pm
    have pm1 : es1.toList.Perm (((Value.str z u, NestedKey.text z) :: L).map (rowOf w)) := pm.trans List.perm_append_comm
    have size1 : es1.size = L.length + 1 := by rw [← Array.length_toList, pm1.length_eq, List.length_map, List.length_cons]
    have walk1 : w.params.followText "set-order" = true ∨ t1.led = true := B.walk.imp id fun y => by rw [led1]; exact y
    have said : ∀ (b : Bool) {s' : Shared} {R : Unit → Shared → Prop}, R () s' → wpAny (model P w) A (match b with | true => rule "set.scan.the-table-gave-way" | false => pure ()) R E s' := fun b => by
      cases b
      · exact fun r => wpAny_pure r
      · exact fun r => wpAny_rule r
    refine wpAny_bind (said gave ?_)
    have rest : ∀ t2 : SetTable, t2.fits es1.size = true → Ris t2.place.toList → t2.led = t1.led →
        wpAny (model P w) A (storeSet a es1 t2) (fun _ s' => wpAny (model P w) A (if (!dummy && t2.tooFull) = true then
          (match (relayAll t2 es1 (SetTable.grown es1.size)).2.2 with | true => rule "set.scan.the-table-gave-way" | false => pure ()) >>= fun _ => storeSet a (relayAll t2 es1 (SetTable.grown es1.size)).1 (relayAll t2 es1 (SetTable.grown es1.size)).2.1 >>= fun _ => pure (some true) else pure (some true))
          (fun r s'' => wpAny (model P w) A (match r with | some added => pure added | none => setAddHashedIn a (.str z u) ((strKind P w).hash z) 99999) Q E s'') E s') E s := by
      intro t2 fit2 ris2 led2
      have walk2 : w.params.followText "set-order" = true ∨ t2.led = true := by rw [led2]; exact walk1
      refine wpAny_storeSet_of at_ dat ?_ (by rw [size1, sizeLine_eq]; omega)
      obtain ⟨L', pm', B'⟩ := bag_text at_ ex dat pm1 fit2 ris2 once1 reads1 walk2 few
      have sb := Heap.SameBut.update s.heap a (Obj.putSet es1 t2)
      by_cases full : (!dummy && t2.tooFull) = true
      · refine wp_if_pos full ?_
        have pm3 := relayAll_perm t2 es1 (SetTable.grown es1.size)
        have fit3 := relayAll_fits t2 es1 (SetTable.grown es1.size)
        have ris3 := relayAll_ris t2 es1 (SetTable.grown es1.size)
        have led3 := relayAll_led t2 es1 (SetTable.grown es1.size)
        generalize relayAll t2 es1 (SetTable.grown es1.size) = lay3 at pm3 fit3 ris3 led3 ⊢
        obtain ⟨es3, t3, gave3⟩ := lay3
        obtain ⟨o', at', ex', dat'⟩ := B'.here
        rw [B'.rows] at pm3
        obtain ⟨L3, q3, B3⟩ := bag_text (s := { s with heap := s.heap.update a (Obj.putSet es1 t2) }) at' ex' dat' pm3 fit3 ris3 B'.once B'.reads (by rw [led3]; exact walk2) B'.few
        have size3 : es3.size = es1.size := by rw [B3.count, q3.length_eq, B'.count]
        refine wpAny_bind (said gave3 (wpAny_bind (wpAny_storeSet_of at' dat' (wpAny_pure (wpAny_pure (q _ _ (sb.trans (Heap.SameBut.update ..)) ⟨L3, _, _, _, B3, fun y => absurd y new, fun _ => q3.trans pm'⟩))) (by rw [size3, size1, sizeLine_eq]; omega))))
      · exact wp_if_neg full (wpAny_pure (wpAny_pure (q _ _ sb ⟨L', _, _, _, B', fun y => absurd y new, fun _ => pm'⟩)))
    by_cases plain : t1.plain = true
    · refine wp_if_pos plain (wpAny_bind ?_)
      rw [hashByValue_scannable 8 rfl]
      refine wpAny_pure (wpAny_bind (rest _ ?_ ?_ ?_))
      · split
        · exact fit1
        · exact SetTable.fits_plain_off fit1
      · split <;> exact ris1
      · split <;> rfl
    · exact wp_if_neg plain (wpAny_bind (wpAny_pure (wpAny_bind (rest t1 fit1 ris1 rfl))))
end
end LP
set_option autoImplicit false
set_option linter.all false
set_option maxRecDepth 100000
set_option maxHeartbeats 3200000
/-! LPBag5: set(xs), xs a list or a tuple of keys of one sort. -/
namespace LP
open PySem PySem.Spec PyProof.Rows L2
section
variable {P : Program} {w : World} {A : Around} {E : Value → Shared → Prop} {s : Shared} {tup : Bool}
/-- a bag of what src holds -/
def From (w : World) (tup : Bool) (a : Addr) (src : List VK2) (h : Heap) : Prop := ∃ L es ep t, Bag w tup h a L es ep t ∧ L.length ≤ src.length ∧ (∀ p ∈ L, p ∈ src) ∧ ∀ p ∈ src, p.2 ∈ L.map (·.2)
abbrev Grew (h h' : Heap) : Prop := ∀ b o, h.get? b = some o → h'.get? b = some o
theorem From.up {a : Addr} {src : List VK2} {h h' : Heap} (F : From w tup a src h) (k : ∀ o, h.get? a = some o → h'.get? a = some o) (r : ∀ p ∈ src, Rd tup h' p) : From w tup a src h' :=
  let ⟨L, es, ep, t, B, n, sub, cov⟩ := F
  ⟨L, es, ep, t, B.up k fun p hp => r p (sub p hp), n, sub, cov⟩
theorem add_any {a : Addr} {src : List VK2} {x : VK2} (F : From w tup a src s.heap) (hx : Rd tup s.heap x) (room : A.units + 8 < cLine) (few : src.length + 1 ≤ 63) {Q : Bool → Shared → Prop}
    (q : ∀ b h n, Heap.SameBut a s.heap h → From w tup a (src ++ [x]) h → Q b { s with heap := h, toks := s.toks + n }) : wpAny (model P w) A (setAdd a x.1) Q E s := by
  obtain ⟨L, es, ep, t, B, n, sub, cov⟩ := F
  have done : ∀ {h : Heap}, Put w tup a L x h → From w tup a (src ++ [x]) h := fun {h} ⟨L', es', ep', t', B', old, new⟩ => by
    rcases Classical.em (x.2 ∈ L.map (·.2)) with m | m
    · rw [old m] at B'
      refine ⟨L, es', ep', t', B', by rw [List.length_append]; omega, fun p hp => List.mem_append_left _ (sub p hp), fun p hp => ?_⟩
      rcases List.mem_append.mp hp with y | y
      · exact cov p y
      · rw [List.mem_singleton.mp y]; exact m
    · have pm := new m
      refine ⟨L', es', ep', t', B', by rw [pm.length_eq, List.length_append, List.length_cons]; simp only [List.length_singleton]; omega, fun p hp => ?_, fun p hp => (pm.map (·.2)).mem_iff.mpr ?_⟩
      · cases pm.mem_iff.mp hp with
        | head => exact List.mem_append_right _ (List.mem_singleton_self x)
        | tail _ y => exact List.mem_append_left _ (sub p y)
      · rcases List.mem_append.mp hp with y | y
        · exact List.mem_cons_of_mem _ (cov p y)
        · rw [List.mem_singleton.mp y]; exact List.mem_cons_self
  unfold setAdd
  refine wpAny_holding (wpAny_bind ?_)
  cases tup with
  | true =>
    obtain ⟨v, k⟩ := x
    obtain ⟨x1, x2, b, rfl⟩ := id hx
    exact (nestedKind P w).pyHash (k := k) room ⟨x1, x2⟩ (add_tup (s := { s with toks := s.toks + k.draws }) B hx room (by omega) fun y h sb pt => q y h _ sb (done pt))
  | false =>
    obtain ⟨z, u, rfl⟩ := hx.text
    exact (strKind P w).pyHash (k := z) (strKind_is P w z u) (add_text (s := { s with toks := s.toks + 1 }) B hx (by omega) fun y h sb pt => q y h _ sb (done pt))
/-- the loop over what it is made of -/
theorem fill_bag {I S : Addr} {fp wr : List Addr} {G : Array GenState → Array GenState → Prop} {n : Nat} {Pv : Nat → Value → Prop} {St : Nat → Shared → Prop} (W : WalksS P w A.in1 I fp wr G n Pv St) (apart : S ∉ fp)
    (src : List VK2) (len : src.length = n) (few : n ≤ 63) (vals : ∀ i v, Pv i v → ∃ k, src[i]? = some (v, k)) (room : A.in1.units + 8 < cLine) (h0 : Heap) (reads : ∀ p ∈ src, Rd tup h0 p) (free : h0.get? S = none) (freeW : ∀ b ∈ wr, h0.get? b = none)
    {R : Result → Shared → Prop} :
    ∀ (m i : Nat) (s : Shared), i + m = n → St i s → Grew h0 s.heap → From w tup S (src.take i) s.heap →
      (∀ s', Moved (S :: wr) G s s' → Grew h0 s'.heap → From w tup S src s'.heap → R (.ok (.ret .none)) s') → codeAny (model P w) A (.builtin "set.update.loop" ⟨[.ref S, .ref I], []⟩) R s := by
  have out : S ∉ wr := fun z => apart (W.sub S z)
  have widen : ∀ {s s' : Shared}, Moved wr G s s' → Moved (S :: wr) G s s' := fun mv => mv.mono fun b hb => List.mem_cons_of_mem S hb
  have grow : ∀ {s s' : Shared}, Moved wr G s s' → Grew h0 s.heap → Grew h0 s'.heap := fun mv g b o e => mv.heap b o (fun z => nomatch (freeW b z).symm.trans e) (g b o e)
  intro m
  induction m with
  | zero =>
    intro i s him st g F fin
    obtain rfl : i = n := by omega
    refine codeAny_builtin PyProof.Rows.F.entry_set_update_loop ?_
    rw [Around.under_plainId PyProof.Rows.F.plain_set_update_loop]
    refine wpAny_bind (m := pyNext (.ref I)) (W.done s _ _ st fun s' mv => wpAny_pure (fin s' (widen mv) (grow mv g) ?_))
    rw [← len, List.take_length] at F
    exact F.up (fun o e => mv.heap S o out e) fun p hp => (reads p hp).up (grow mv g)
  | succ m ih =>
    intro i s him st g F fin
    refine codeAny_builtin PyProof.Rows.F.entry_set_update_loop ?_
    rw [Around.under_plainId PyProof.Rows.F.plain_set_update_loop]
    refine wpAny_bind (m := pyNext (.ref I)) (W.item i s _ _ (by omega) st fun v s' hv st' mv => ?_)
    obtain ⟨k, hk⟩ := vals i v hv
    have g' := grow mv g
    have F' := F.up (fun o e => mv.heap S o out e) fun p hp => (reads p (List.mem_of_mem_take hp)).up g'
    have next : src.take (i + 1) = src.take i ++ [(v, k)] := by rw [List.take_add_one, hk]; rfl
    refine wpAny_bind (m := holding [v] (setAdd S v)) (wpAny_holding (add_any (x := (v, k)) F' ((reads _ (List.mem_of_getElem? hk)).up g') room (by rw [List.length_take]; omega) fun b h d sb F2 => ?_))
    have stays : ∀ {b : Addr} {o : Obj}, b ≠ S → s'.heap.get? b = some o → h.get? b = some o := fun ne e => (sb.2 _ ne).trans e
    have g2 : Grew h0 h := fun b o e => stays (fun z => by rw [z, free] at e; cases e) (g' b o e)
    refine wpAny_pure ⟨plainId_quiet PyProof.Rows.F.plain_set_update_loop _, ih (i + 1) _ (by omega) (W.frame (i + 1) s' h _ st' (Nat.le_add_right ..) fun b hb o e => stays (fun z => apart (z ▸ hb)) e) g2 (by rw [next]; exact F2) fun s2 mv2 => ?_⟩
    refine fin s2 (Moved.trans W.gtrans ((widen mv).then_heap (Nat.le_add_right ..) fun b o hb e => stays (fun z => hb (z ▸ List.mem_cons_self)) e) mv2)
abbrev freshSet (w : World) : Obj := { cls := .type "set", dict := none, data := .set #[] 0 (.fresh 0 0 (!w.params.followText "set-order")) }
theorem From.none {h : Heap} {a : Addr} (at_ : h.get? a = some (freshSet w)) : From w tup a [] h := by
  have no : ∀ {p : VK2} {C : Prop}, p ∈ ([] : List VK2) → C := fun hp => absurd hp List.not_mem_nil
  refine ⟨[], #[], 0, .fresh 0 0 (!w.params.followText "set-order"), ⟨⟨_, at_, ⟨rfl, rfl, rfl⟩, rfl⟩, rfl, ?_, List.nodup_nil, fun p hp => no hp, ?_, Nat.zero_le _⟩, Nat.le_refl _, fun p hp => no hp, fun p hp => no hp⟩
  · cases tup
    · exact ⟨List.Pairwise.nil, rfl⟩
    · refine ⟨⟨List.Pairwise.nil, rfl, rfl, .inl rfl, fun x hx => absurd hx List.not_mem_nil, fun i z j hi => ?_⟩, show 0 * 5 < 7 * 3 by decide⟩
      cases hi
  · cases y : w.params.followText "set-order"
    · exact .inr rfl
    · exact .inl rfl
/-- set.__init__ of a new set, of a list or a tuple -/
theorem init_bag {S l : Addr} {items : Array Value} (hh : A.handled = none) (src : List VK2) (e : src.map (·.1) = items.toList) (few : src.length ≤ 63) (room : A.units + 12 < cLine) {h0 : Heap}
    (at_ : s.heap.get? S = some (freshSet w)) (last : s.heap.objs.size = S + 1) (seq : h0.IsList l items ∨ h0.IsTuple l items) (reads : ∀ p ∈ src, Rd tup h0 p) (g : Grew h0 s.heap) (old : h0.objs.size = S)
    {R : Unit → Shared → Prop} (q : ∀ h tk, From w tup S src h → Grew h0 h → R () { s with heap := h, toks := tk }) :
    wpAny (model P w) A (Builtin.Frozenset.updateFrom "set.__init__" S (.ref l)) R E s := by
  have fresh : ∀ b, S ≤ b → h0.get? b = Option.none := fun b hb => by
    cases z : h0.get? b with
    | none => rfl
    | some o => exact absurd (old ▸ Heap.lt_size z) (Nat.not_lt.mpr hb)
  have lt : l < S := by
    rcases seq with z | z <;> obtain ⟨o, z, _⟩ := z <;> exact old ▸ Heap.lt_size z
  have vals : ∀ i v, items[i]? = some v → ∃ k, src[i]? = some (v, k) := fun i v hv => by
    rw [← Array.getElem?_toList, ← e, List.getElem?_map] at hv
    cases z : src[i]? with
    | none => rw [z] at hv; cases hv
    | some p => rw [z] at hv; cases hv; exact ⟨p.2, z⟩
  have len : src.length = items.size := by rw [← Array.length_toList, ← e, List.length_map]
  have hh1 : A.in1.handled = Option.none := by simp [hh]
  have room1 : A.in1.units + 8 < cLine := by show A.units + 1 + 8 < cLine; omega
  have ends : ∀ {it : Obj} {s' : Shared}, Moved [S, s.heap.objs.size] (fun x y => y = x) { s with heap := s.heap.push it } s' → Grew h0 s'.heap → From w tup S src s'.heap → R () s' := fun {it s'} mv g' F => by
    obtain ⟨h', gens, dr, tk, os⟩ := s'
    obtain rfl : gens = s.gens := mv.gens
    obtain rfl : dr = s.drawn := mv.drawn
    obtain rfl : os = s.os := mv.os
    exact q h' tk F g'
  have isx : l ≠ s.heap.objs.size := last ▸ Nat.ne_of_lt (Nat.lt_succ_of_lt lt)
  have nfp : S ∉ [s.heap.objs.size, l] := by
    rw [last]
    simp only [List.mem_cons, List.not_mem_nil, or_false, not_or]
    exact ⟨Nat.ne_of_lt (Nat.lt_succ_self S), Nat.ne_of_gt lt⟩
  have wrs : ∀ b ∈ [s.heap.objs.size], h0.get? b = Option.none := fun b hb => by
    rw [List.mem_singleton.mp hb, last]
    exact fresh _ (Nat.le_succ S)
  have g1 : ∀ it : Obj, Grew h0 (s.heap.push it) := fun it b o e => Heap.get?_push_of_some _ (g b o e)
  have start : ∀ it : Obj, From w tup S (src.take 0) (s.heap.push it) := fun it => From.none (Heap.get?_push_of_some _ at_)
  rcases seq with z | z
  · have z' : s.heap.IsList l items := z.at fun o => g l o
    obtain ⟨⟨c, d, dt, sl⟩, z1, z2, m, z3⟩ := id z'
    simp only at z2 z3
    subst z2; subst z3
    have y1 := PySem.F.sub_list_set
    have y2 := PySem.F.sub_list_frozenset
    have y3 : (Value.type "list" == Value.type "dict") = false := by decide
    unfold Builtin.Frozenset.updateFrom
    generalize hit : pyIter = it
    wp_walk
    subst hit
    refine wpAny_pyIter_list z' (wpAny_bind (wpAny_runValue ?_))
    refine fill_bag ((Walks.list hh1 _ l isx items).toS) nfp src len (by omega) vals room1 h0 reads (fresh S (Nat.le_refl S)) wrs items.size 0 _ (by omega) ?_ ?_ ?_ ?_
    · exact ⟨⟨_, Heap.get?_push_size _ rfl, rfl, rfl⟩, z'.push _⟩
    · exact g1 _
    · exact start _
    · exact fun s' mv g' F => wpAny_pure (ends mv g' F)
  · have z' : s.heap.IsTuple l items := z.at fun o => g l o
    obtain ⟨⟨c, d, dt, sl⟩, z1, z2, m, z3⟩ := id z'
    simp only at z2 z3
    subst z2; subst z3
    have y1 := PySem.F.sub_tuple_set
    have y2 := PySem.F.sub_tuple_frozenset
    have y3 : (Value.type "tuple" == Value.type "dict") = false := by decide
    unfold Builtin.Frozenset.updateFrom
    generalize hit : pyIter = it
    wp_walk
    subst hit
    refine wpAny_pyIter_tuple z' (wpAny_bind (wpAny_runValue ?_))
    refine fill_bag ((Walks.tuple hh1 _ l isx items).toS) nfp src len (by omega) vals room1 h0 reads (fresh S (Nat.le_refl S)) wrs items.size 0 _ (by omega) ?_ ?_ ?_ ?_
    · exact ⟨⟨_, Heap.get?_push_size _ rfl, rfl, rfl⟩, z'.push _⟩
    · exact g1 _
    · exact start _
    · exact fun s' mv g' F => wpAny_pure (ends mv g' F)
end
end LP
set_option autoImplicit false
set_option linter.all false
set_option maxRecDepth 100000
set_option maxHeartbeats 3200000
/-! LPBag6: the call set(xs). -/
namespace LP
open PySem PySem.Spec PyProof.Rows L2
section
variable {P : Program} {w : World} {A : Around} {E : Value → Shared → Prop} {s : Shared} {tup : Bool}
/-- set(xs) -/
theorem call_bag {l : Addr} {items : Array Value} {Q : Value → Shared → Prop} (hh : A.handled = none) (src : List VK2) (e : src.map (·.1) = items.toList) (few : src.length ≤ 63) (room : A.units + 20 < cLine)
    (seq : s.heap.IsList l items ∨ s.heap.IsTuple l items) (reads : ∀ p ∈ src, Rd tup s.heap p)
    (q : ∀ h tk, From w tup s.heap.objs.size src h → Grew s.heap h → Q (.ref s.heap.objs.size) { s with heap := h, toks := tk }) : wpAny (model P w) A (call (.type "set") [.ref l]) Q E s := by
  have K := PySem.F.called_set
  have ⟨_, _, order⟩ := K.mro
  have mk := K.made; have sb := K.sub; have k1 := K.notType; have k2 := K.canCreate; have k3 := PySem.F.typeCall_set_1 (.ref l)
  have look := K.init.lookup; have bound := K.init.bind (.ref s.heap.objs.size)
  have at_ : (s.heap.push (freshSet w)).get? s.heap.objs.size = some (freshSet w) := Heap.get?_push_size _ rfl
  have ty : Shared.TypeIs { s with heap := s.heap.push (freshSet w) } (.ref s.heap.objs.size) "set" := ⟨_, at_, rfl⟩
  apply wpAny_call
  apply codeAny_of_tree
  show wpAny _ _ (callAny (.type "set") _) _ _ _
  apply wpAny_pure
  refine ⟨Code.quiet_builtin _ (by decide +kernel), ?_⟩
  apply codeAny_builtin PySem.F.entry_type_call
  rw [Around.under_plain (weight_type_call_type "set" [.ref l] []) rfl]
  repeat (any_goals (first | assumption | wp_step))
  refine codeAny_mono (code_set_led1 (E := E) (.ref l) (Q₁ := fun v s' => v = .ref s.heap.objs.size ∧ s' = { s with heap := s.heap.push (freshSet w) }) ⟨rfl, rfl⟩) ?_
  rintro (bad | fl) s1 ended
  · exact ended
  cases fl <;> first | exact ended.elim | skip
  obtain ⟨rfl, rfl⟩ := ended
  repeat (any_goals (first | assumption | wp_step))
  refine codeAny_mono (codeAny_call_builtin (R := wants (fun v s' => v = .none ∧ ∃ h tk, s' = { s with heap := h, toks := tk } ∧ From w tup s.heap.objs.size src h ∧ Grew s.heap h) E) K.init.plain PySem.F.entry_set_init (check_set_init_1 ty ?_)) ?_
  · unfold Builtin.«set.__init__» noKeywords
    generalize hup : Builtin.Frozenset.updateFrom = up
    wp_walk
    subst hup
    refine init_bag (s := { s with heap := s.heap.push (freshSet w) }) (h0 := s.heap) (by simpa using hh) src e few (by show A.units + 1 + 1 + 12 < cLine; omega) at_ (Heap.size_push ..) seq reads (fun b o z => Heap.get?_push_of_some _ z) rfl fun h tk F g => ?_
    exact wpAny_pure ⟨rfl, h, tk, rfl, F, g⟩
  · rintro (bad | fl) s1 ended
    · exact ended
    cases fl <;> first | exact ended.elim | skip
    obtain ⟨rfl, h, tk, rfl, F, g⟩ := ended
    repeat (any_goals (first | assumption | wp_step))
    exact q h tk F g
end
end LP
set_option autoImplicit false
set_option linter.all false
set_option maxRecDepth 100000
set_option maxHeartbeats 3200000
/-! LPBag7: sorted(set(xs)): the data, each once, ascending. -/
namespace LP
open PySem PySem.Spec PyProof.Rows L2 PySem.W
mutual
theorem nk_depth : ∀ (d : D), (nk d).depth ≤ d.depth
  | .none => by simp [nk, NestedKey.depth]
  | .bool _ => by simp [nk, NestedKey.depth]
  | .int _ => by simp [nk, NestedKey.depth]
  | .str _ => by simp [nk, NestedKey.depth]
  | .list _ => by simp [nk, NestedKey.depth]
  | .dict _ => by simp [nk, NestedKey.depth]
  | .tuple ds => by
    simp only [nk, NestedKey.depth, PyData.depth]
    have := nks_depth ds
    omega
theorem nks_depth : ∀ (ds : List D), NestedKey.depthAll (nks ds) ≤ PyData.depthAll ds
  | [] => by simp [nks, NestedKey.depthAll]
  | d :: ds => by
    simp only [nks, NestedKey.depthAll, PyData.depthAll]
    have := nk_depth d
    have := nks_depth ds
    omega
end
section
variable {X : L2.Cx} {pins : List (Addr × Obj)} {σ : L2.St} {H : Hp} {s : Shared} {P : List Addr}
mutual
theorem nest_of (I : Inv X pins σ H s) : ∀ (d : D) (x : V) (u : Value), hasList d = false → DR X.K H P d x → RelV x u → NestedIs s.heap (nk d) u
  | .none, x, u, _, h, r => by
    simp only [DR] at h; subst h
    cases (show u = Value.none from r); exact .none
  | .bool b, x, u, _, h, r => by
    simp only [DR] at h; subst h
    cases (show u = Value.bool b from r); exact .bool rfl
  | .int i, x, u, _, h, r => by
    simp only [DR] at h; subst h
    obtain ⟨t, rfl⟩ := (show ∃ t, u = Value.int i t from r); exact .int i t
  | .str z, x, u, _, h, r => by
    simp only [DR] at h; subst h
    obtain ⟨t, rfl⟩ := (show ∃ t, u = Value.str z t from r); exact .text z t
  | .list _, x, u, hl, _, _ => by simp [hasList] at hl
  | .tuple ds, x, u, hl, h, r => by
    simp only [DR] at h
    obtain ⟨a, xs, rfl, h1, h2⟩ := h
    cases (show u = Value.ref a from r)
    obtain ⟨its, rv, ⟨o, e1, e2, n, e3⟩, _⟩ := I.tuple h1
    exact .tup e1 e2 e3 (by simpa using nests_of I ds xs its (by simpa only [hasList] using hl) h2 rv)
  | .dict _, x, u, hl, _, _ => by simp [hasList] at hl
theorem nests_of (I : Inv X pins σ H s) : ∀ (ds : List D) (xs : List V) (us : List Value), hasListAll ds = false → DRs X.K H P ds xs → Vals xs us → NestedAll s.heap (nks ds) us
  | [], xs, us, _, h, r => by
    simp only [DRs] at h; subst h; cases r; exact .nil
  | d :: ds, xs, us, hl, h, r => by
    simp only [DRs] at h
    obtain ⟨y, ys, rfl, h1, h2⟩ := h
    simp only [hasListAll, Bool.or_eq_false_iff] at hl
    cases r with
    | cons r1 r2 => exact .cons (nest_of I d y _ hl.1 h1 r1) (nests_of I ds ys _ hl.2 h2 r2)
end
/-- data that a bag takes -/
def okKey (tup : Bool) (d : D) : Bool := !hasList d && decide (d.depth ≤ 8) && (if tup = true then isTupD d else isStrD d)
theorem rd_of (I : Inv X pins σ H s) {tup : Bool} {d : D} {x : V} {u : Value} (k : okKey tup d = true) (h : DR X.K H P d x) (r : RelV x u) : Rd tup s.heap (u, nk d) := by
  simp only [okKey, Bool.and_eq_true, Bool.not_eq_true', decide_eq_true_eq] at k
  have n := nest_of I d x u k.1.1 h r
  refine ⟨n, Nat.le_trans (nk_depth d) k.1.2, ?_⟩
  cases tup <;> cases d <;> first | exact Bool.noConfusion k.2 | skip
  · cases n; exact ⟨_, _, rfl⟩
  · cases n; exact ⟨_, rfl⟩
theorem keys_of (I : Inv X pins σ H s) {tup : Bool} : ∀ {c : List D} {xs : List V} {us : List Value}, (∀ d ∈ c, okKey tup d = true) → DRs X.K H P c xs → Vals xs us →
    ∃ ps : List (Value × D), us = ps.map (·.1) ∧ c = ps.map (·.2) ∧ ∀ p ∈ ps, Rd tup s.heap (p.1, nk p.2) ∧ ∃ x, RelV x p.1 ∧ DR X.K H P p.2 x
  | [], _, _, _, h, r => by
    simp only [DRs] at h
    subst h
    cases r
    exact ⟨[], rfl, rfl, fun p hp => absurd hp List.not_mem_nil⟩
  | d :: c, _, _, k, h, r => by
    simp only [DRs] at h
    obtain ⟨y, ys, rfl, h1, h2⟩ := h
    cases r with
    | @cons _ u _ _ r1 r2 =>
      obtain ⟨ps, rfl, rfl, each⟩ := keys_of I (fun d hd => k d (List.mem_cons_of_mem _ hd)) h2 r2
      refine ⟨(u, d) :: ps, rfl, rfl, fun p hp => ?_⟩
      cases hp with
      | head => exact ⟨rd_of I (k d List.mem_cons_self) h1 r1, y, r1, h1⟩
      | tail _ hp => exact each p hp
end
section
variable {X : L2.Cx} {nr : Nat} {G : Gx} {fr : Nat → Bool} {pos p q p2 : Pos} {a : Expr} {e1 : E}
theorem sset_any {pins : List (Addr × Obj)} {σ : L2.St} {H : Hp} {s : Shared} {P : List Addr} {l : Addr} {c : List D} {Q : VK} {tup : Bool} {us : List Value} {xs : List V} (hc : X.calm = true) (hu : X.A.units + 200 < cLine) (I : Inv X pins σ H s) (pr : Prot P H)
    (seq : s.heap.IsList l us.toArray ∨ s.heap.IsTuple l us.toArray) (hv : Vals xs us) (hd : DRs X.K H P c xs) (h4 : c.length < 64) (ok : ∀ d ∈ c, okKey tup d = true) (ha : allAlk c = true)
    (q : ∀ z H', Frm [] H H' → DR X.K H' P (.list (isort (nub c))) z → NewL X.K P H H' (.list (isort (nub c))) z → Q z H') :
    wpAny (model X.prog X.w) X.A (call (.type "set") [.ref l]) (fun u s' => wpAny (model X.prog X.w) X.A (call (.builtin "sorted") [u]) (EP X pins σ Q) X.xe s') X.xe s := by
  have alk := allAlk_all ha
  obtain ⟨ps, e1, e2, each⟩ := keys_of I ok hd hv
  subst e2
  rw [List.length_map] at h4
  have inc : ∀ {p : Value × D}, p ∈ ps → p.2 ∈ ps.map (·.2) := fun hp => List.mem_map.mpr ⟨_, hp, rfl⟩
  have flat : ∀ {p : Value × D}, p ∈ ps → hasList p.2 = false ∧ p.2.depth ≤ 8 ∧ (if tup = true then isTupD p.2 else isStrD p.2) = true := fun hp => by
    have := ok _ (inc hp)
    simp only [okKey, Bool.and_eq_true, Bool.not_eq_true', decide_eq_true_eq] at this
    exact ⟨this.1.1, this.1.2, this.2⟩
  let g : Value × D → VK2 := fun p => (p.1, nk p.2)
  refine call_bag (tup := tup) (I.ok.hd hc) (ps.map g) (by rw [List.map_map]; exact e1.symm) (by rw [List.length_map]; omega) (by omega) seq (fun k hk => ?_) fun h' tk F grew => ?_
  · obtain ⟨p, hp, rfl⟩ := List.mem_map.mp hk
    exact (each p hp).1
  obtain ⟨L, es, ep, t, B, short, sub, cov⟩ := F
  rw [List.length_map] at short
  have lift : ∀ M : List VK2, (∀ m ∈ M, m ∈ ps.map g) → ∃ M' : List (Value × D), M = M'.map g ∧ ∀ m ∈ M', m ∈ ps := fun M => by
    induction M with
    | nil => exact fun _ => ⟨[], rfl, fun m hm => absurd hm List.not_mem_nil⟩
    | cons m M ih =>
      intro hM
      obtain ⟨M', rfl, hM'⟩ := ih fun z hz => hM z (List.mem_cons_of_mem _ hz)
      obtain ⟨p, hp, rfl⟩ := List.mem_map.mp (hM m List.mem_cons_self)
      refine ⟨p :: M', rfl, fun z hz => ?_⟩
      cases hz with
      | head => exact hp
      | tail _ hz => exact hM' z hz
  obtain ⟨L', rfl, sL⟩ := lift L sub
  rw [List.length_map] at short
  have vals : es.toList.map (·.2) = L'.map (·.1) := by rw [B.rows, List.map_map, List.map_map]; rfl
  obtain ⟨o, ho, hex, hdt⟩ := B.here
  refine Calls.call_function_entry kind_sorted plain_sorted entry_sorted (args_sorted1 _) ?_
  unfold Builtin.«sorted»
  refine wpAny_bind (m := checkCount "sorted" 1 1 _) (wpAny_pure (wpAny_bind ?_))
  refine collect_set (s := { s with heap := h', toks := tk }) (A := X.A.in1) (I.ok.hd hc) ⟨o, ho, hex.1, hdt⟩ B.fit (by rw [B.count, List.length_map]; unfold scanBound; omega) B.lay.ris B.walk fun s1 vs k1 hz1 g1 o1 pm => ?_
  rw [vals] at pm
  obtain ⟨L2, pL, rfl⟩ := perm_lift (fun p : Value × D => p.1) pm
  have sL2 : ∀ m ∈ L2, m ∈ ps := fun m hm => sL m (pL.mem_iff.mp hm)
  have grown : Grew s.heap s1.heap := fun b o e => k1 b o (grew b o e)
  have I3 : Inv X pins σ H s1 := by
    obtain ⟨h3, g3, d3, t3, os3⟩ := s1
    obtain rfl : os3 = s.os := o1
    obtain rfl : g3 = s.gens := g1
    exact I.call (g' := s.gens) (t' := t3) (d' := d3) (ch := []) (Un.kept grown) (I.hok.kept grown) I.bare (fun b hb => absurd hb List.not_mem_nil)
  have l2 := pL.length_eq
  generalize hvs : (L2.map fun p => p.1) = vs
  have hvl : vs.length < 64 := by rw [← hvs, List.length_map]; omega
  refine wpAny_bind (wpAny_newList ?_ (by rw [sizeLine_eq]; omega))
  have hoL : (s1.heap.push (seqObj "list" vs.toArray 0)).get? s1.heap.objs.size = some (seqObj "list" vs.toArray 0) := Heap.get?_push_size _ rfl
  have hE : EachIs (fun v d => ∃ x, RelV x v ∧ DR X.K H P d x) vs (L2.map (·.2)) := by
    rw [← hvs]
    have : ∀ M : List (Value × D), (∀ m ∈ M, m ∈ ps) → EachIs (fun v d => ∃ x, RelV x v ∧ DR X.K H P d x) (M.map (·.1)) (M.map (·.2)) := fun M => by
      induction M with
      | nil => exact fun _ => .nil
      | cons m M ih => exact fun hM => .cons (each m (hM m List.mem_cons_self)).2 (ih fun z hz => hM z (List.mem_cons_of_mem _ hz))
    exact this L2 sL2
  obtain ⟨ys, ry, dy⟩ := of_each hE
  obtain ⟨as, ra⟩ := Dp.readsAll I3 _ ys _ dy.dp ry
  have er : EachIs (fun v d => ∃ as, Reads s1.heap v d as) vs (L2.map (·.2)) := readsAll_each (fun d : D => d) (by rw [map_id']; exact ra)
  have hal2 : AllAlike (L2.map (·.2)) := fun d hd d' hd' => by
    obtain ⟨p, hp, rfl⟩ := List.mem_map.mp hd
    obtain ⟨p', hp', rfl⟩ := List.mem_map.mp hd'
    exact alk _ (inc (sL2 p hp)) _ (inc (sL2 p' hp'))
  generalize hH : sortingHeap (s1.heap.push (seqObj "list" vs.toArray 0)) s1.heap.objs.size vs = HS
  have keep2 : Grew s1.heap HS := fun b o e => hH ▸ sortingHeap_old (Nat.ne_of_lt (Heap.lt_size e)) (Heap.get?_push_of_some _ e)
  have er' : EachIs (fun v b => ∃ as, Reads HS v b as) vs (L2.map (·.2)) := er.mono fun _ _ ⟨as, r⟩ => ⟨as, PyProof.Rows.Reads.keeps keep2 r⟩
  have sorting := sorts_at (s := { s1 with heap := HS }) (A := X.A.in1.in1) (prog := X.prog) (w := X.w) er' hal2 (fun d hd z => ?_) (fun d hd => ?_)
  rotate_left
  · obtain ⟨p, hp, rfl⟩ := List.mem_map.mp hd
    have := (flat (sL2 p hp)).2.2
    rw [z] at this
    cases tup <;> cases this
  · obtain ⟨p, hp, rfl⟩ := List.mem_map.mp hd
    have := (flat (sL2 p hp)).2.1
    show X.A.units + 1 + 1 + p.2.depth < cLine
    omega
  subst hH
  refine wpAny_bind (wpAny_holding (wpAny_call_entry slot_list_sort ⟨_, hoL, rfl⟩ entry_list_sort (list_sort_vals (s := { s1 with heap := s1.heap.push (seqObj "list" vs.toArray 0) }) hoL sorting (by rw [sizeLine_eq]; omega) ⟨_, rfl, ?_⟩) (args_list_sort _)))
  have hso := sortVals_data (enc := fun d : D => d) false hE er' (by rw [map_id']; exact hal2)
  rw [map_id'] at hso
  obtain ⟨zs, rz, dz⟩ := of_each hso
  rw [← isort_merge hal2] at dz
  have once2 : (L2.map (·.2)).Nodup := by
    have n1 : (L2.map fun p => nk p.2).Nodup := (pL.map _).nodup_iff.mpr (by have := B.once; rw [List.map_map] at this; exact this)
    rw [show (L2.map fun p => nk p.2) = (L2.map (·.2)).map nk by rw [List.map_map]; rfl] at n1
    exact List.Pairwise.of_map nk (fun _ _ ne e => ne (congrArg nk e)) n1
  have fl2 : ∀ d ∈ L2.map (·.2), hasList d = false := fun d hd => by
    obtain ⟨p, hp, rfl⟩ := List.mem_map.mp hd
    exact (flat (sL2 p hp)).1
  have same : (L2.map (·.2)).Perm (nub (ps.map (·.2))) := by
    refine (List.perm_ext_iff_of_nodup once2 (nub_nodup fun d hd => ?_)).mpr fun d => ⟨fun hd => ?_, fun hd => ?_⟩
    · obtain ⟨p, hp, rfl⟩ := List.mem_map.mp hd
      exact (flat hp).1
    · obtain ⟨p, hp, rfl⟩ := List.mem_map.mp hd
      exact nub_all alk (inc (sL2 p hp))
    · obtain ⟨p, hp, rfl⟩ := List.mem_map.mp (nub_sub hd)
      have := cov (g p) (List.mem_map.mpr ⟨p, hp, rfl⟩)
      rw [List.map_map] at this
      obtain ⟨p', hp', e'⟩ := List.mem_map.mp this
      have e' : nk p'.2 = nk p.2 := e'
      have hp2 : p' ∈ L2 := pL.mem_iff.mpr hp'
      have ev : PyData.eqv p'.2 p.2 = true := by rw [← nk_eqv _ _ (flat (sL2 p' hp2)).1 (flat hp).1, e']; exact NestedKey.beq_self _
      rw [← alk_eqv _ _ (alk _ (inc (sL2 p' hp2)) _ (inc hp)) ev]
      exact List.mem_map.mpr ⟨p', hp2, rfl⟩
  rw [isort_perm same hal2 once2 fl2] at dz
  have hol := sortVals_length (κ := dataKind (sortingHeap (s1.heap.push (seqObj "list" vs.toArray 0)) s1.heap.objs.size vs) (L2.map (·.2))) false (rfl : vs.length = vs.length)
  generalize sortVals (dataKind (sortingHeap (s1.heap.push (seqObj "list" vs.toArray 0)) s1.heap.objs.size vs) (L2.map (·.2))) false vs vs = out at rz hol ⊢
  obtain ⟨cc, hcc⟩ := sortedHeap_at (vs := vs) (out := out.toArray) hoL
  have hn : H s1.heap.objs.size = none := I3.hok.fresh (Nat.le_refl _)
  have lay := laid_list pr hn dz
  refine wpAny_pure ⟨_, rfl, .ref s1.heap.objs.size, upd H s1.heap.objs.size (.lst zs), I3.laid (t' := s1.toks) (fun b u e => ?_) (Nat.le_refl _) ⟨by rw [rz.length, hol, sizeLine_eq]; omega, out, cc, rz, hcc⟩, rfl, q _ _ (Frm.new hn) lay.1 lay.2⟩
  have hlt := Heap.lt_size e
  rw [sortedHeap_old (Nat.ne_of_lt hlt) (by rw [size_push']; exact Nat.lt_succ_of_lt hlt)]
  exact Heap.get?_push_of_some _ e
theorem okStr {d : D} (h : isStrD d = true) : okKey false d = true := by
  cases d <;> first | exact Bool.noConfusion h | rfl
/-- the keys' sort, of the guard of sorted(set(..)) -/
theorem sort_of {c : List D} (k : (∀ d ∈ c, isStrD d = true) ∨ ∀ d ∈ c, (hasList d = false ∧ isTupD d = true) ∧ d.depth ≤ 8) : ∃ tup, ∀ d ∈ c, okKey tup d = true := by
  rcases k with k | k
  · exact ⟨false, fun d hd => okStr (k d hd)⟩
  · refine ⟨true, fun d hd => ?_⟩
    obtain ⟨⟨k1, k2⟩, k3⟩ := k d hd
    simp only [okKey, k1, k2, k3, decide_true, Bool.not_false, if_true, Bool.and_self]
theorem e_sset (hc : X.calm = true) (hu : X.A.units + 200 < cLine) (hg : Gl X "sorted") (hm : X.mg "sorted" = none) (hg2 : Gl X "set") (hm2 : X.mg "set" = none) (ha : PE X a (tE X.K nr G fr e1)) (hs : noStar a = true) :
    PE X (.Call (.Name "sorted" p) [.Call (.Name "set" p2) [a] [] q] [] pos) (tE X.K nr G fr (.o1 .sset e1)) := by
  refine PE.up (e := .o1 .sset e1) ⟨fun pins s σ H Q I z => ?_⟩
  obtain ⟨P, W, ps, vs, cs, d, cs', R, ev, z⟩ := z
  simp only [evE] at ev
  obtain ⟨⟨d1, cs1⟩, ev1, ev⟩ := LP.R.bind_ok ev
  obtain ⟨r, ev2, ev⟩ := LP.R.bind_ok ev
  simp only at ev ev2
  obtain ⟨rfl, rfl⟩ : d = r ∧ cs' = cs1 := by cases ev; exact ⟨rfl, rfl⟩
  have st : starEach [a] X.env = (false, eval a X.env) :: starEach [] X.env := star_cons hs
  -- both displays at once
  have both : ∀ c : List D, op1 .sset d1 = op1 .sset (.list c) → (∀ {x H1 s1}, Inv X pins σ H1 s1 → Pst X.K P W nr ps vs σ H fr e1 cs cs' d1 x H1 → ∃ l xs us, x = .ref l ∧ Vals xs us ∧ DRs X.K H1 P c xs ∧ (s1.heap.IsList l us.toArray ∨ s1.heap.IsTuple l us.toArray)) →
      wpAny (model X.prog X.w) X.A (eval (.Call (.Name "sorted" p) [.Call (.Name "set" p2) [a] [] q] [] pos) X.env) (EP X pins σ Q) X.xe s := by
    intro c e2 open_
    rw [e2] at ev2
    simp only [op1] at ev2
    obtain ⟨_, k, ev2⟩ := LP.R.bind_ok ev2
    have k := LP.R.chk_ok k
    simp only [Bool.and_eq_true, List.all_eq_true, decide_eq_true_eq, Bool.not_eq_true'] at k
    obtain ⟨⟨k1, k2⟩, k3⟩ := k
    have k1 : c.length < 64 := by omega
    obtain ⟨tup, ok⟩ := sort_of (.inr k2)
    obtain rfl : d = .list (isort (nub c)) := by cases ev2; rfl
    refine Call_ (ld_blt I hg hm (by rfl) ?_ (by decide) (by decide))
    refine PyProof.Rows.callWith_builtin1 (PyProof.Rows.args_cons ?_ rfl) rfl rfl
    refine Call_ (ld_blt I hg2 hm2 (by rfl) ?_ (by decide) (by decide))
    refine PyProof.Rows.callWith_type1 (PyProof.Rows.args_cons (thn (ha.run pins s σ H (fun x H' => Pst X.K P W nr ps vs σ H fr e1 cs cs' d1 x H') I ⟨P, W, ps, vs, cs, _, _, R, ev1, fun x H' p => p⟩) fun v s1 ⟨x, H1, I1, r1, p1⟩ => PyProof.Rows.args_nil ?_) st) st rfl
    obtain ⟨l, xs, us, rfl, hv, hd, seq⟩ := open_ I1 p1
    cases r1
    refine thn (sset_any (Q := Q) hc hu I1 p1.aft.rv.pr seq hv hd k1 ok k3 fun y H2 f dr nl => z y H2 ⟨p1.aft.step f, .inl dr, fun _ => dr, fun _ => nl.later p1.aft.frm R.sub p1.aft.rv.pr⟩) fun u s2 h => ?_
    exact PyProof.Rows.args_nil h
  cases d1 with
  | list c =>
    refine both c rfl fun I1 p1 => ?_
    obtain ⟨l, xs, rfl, hq, hd⟩ := p1.db.list
    obtain ⟨its, rv, pl, _⟩ := I1.list hq
    exact ⟨l, xs, its, rfl, rv, hd, .inl pl.isList⟩
  | _ => cases ev2
end
end LP
set_option autoImplicit false
set_option linter.all false
set_option maxRecDepth 100000
set_option maxHeartbeats 1000000
/-! LPEnum: iterators that hand out new pairs (enumerate, zip), over lists and tuples alike: one turn for all, of the library's walks of tuples. -/
namespace LP
open PySem PySem.Spec PyProof.Rows L2
/-! ### lists and tuples -/
def SqK (t : Bool) (K : Frg) (H : Hp) (a : Addr) (xs : List V) : Prop := if t = true then SqT K H a xs else SqL K H a xs
def SeqAt (t : Bool) (h : Heap) (a : Addr) (items : Array Value) : Prop := if t = true then h.IsTuple a items else h.IsList a items
def CurAt (t : Bool) (h : Heap) (it a : Addr) (i : Nat) : Prop := if t = true then h.IsTupleIter it a i else h.IsListIter it a i
def curObj (t : Bool) (a : Addr) : Obj := { cls := .type (if t = true then "tuple_iterator" else "list_iterator"), data := .fields #[.ref a, .int 0 0] }
theorem CurAt.up {t : Bool} {h h' : Heap} {it a : Addr} {i : Nat} (c : CurAt t h it a i) (k : ∀ o, h.get? it = some o → h'.get? it = some o) : CurAt t h' it a i := by
  cases t
  · exact Heap.IsListIter.at c k
  · exact Heap.IsTupleIter.at c k
theorem CurAt.live {t : Bool} {h : Heap} {it a : Addr} {i : Nat} (c : CurAt t h it a i) : ∃ o, h.get? it = some o ∧ ∀ v, o.data ≠ .cell v := by
  cases t <;> exact (let ⟨o, e, _, d⟩ := c; ⟨o, e, fun v q => nomatch d.symm.trans q⟩)
theorem CurAt.first {t : Bool} {h : Heap} {it a : Addr} (e : h.get? it = some (curObj t a)) : CurAt t h it a 0 := by
  cases t <;> exact ⟨_, e, rfl, rfl⟩
theorem drawsK (t : Bool) {prog : Program} {w : World} {A : Around} (hh : A.handled = none) (it a : Addr) (ne : a ≠ it) (items : Array Value) :
    Draws prog w A it [it, a] items.size (fun i v => items[i]? = some v) (fun i h => CurAt t h it a i ∧ SeqAt t h a items) := by
  cases t
  · exact Draws.list hh it a ne items
  · exact Draws.tuple hh it a ne items
theorem beginsK (t : Bool) (a : Addr) (items : Array Value) : Begins (.ref a) (curObj t a) fun h => SeqAt t h a items := by
  cases t
  · exact begins_list a items
  · exact begins_tuple a items
section
variable {X : L2.Cx} {pins : List (Addr × Obj)} {σ : L2.St} {H : Hp} {s : Shared} {t : Bool} {a : Addr} {xs ys : List V}
theorem SqK.items (I : Inv X pins σ H s) (q : SqK t X.K H a xs) : ∃ us, Vals xs us ∧ SeqAt t s.heap a us.toArray ∧ xs.length ≤ sizeLine := by
  cases t
  · obtain ⟨us, r, p, z⟩ := I.list q
    exact ⟨us, r, p.isList, z⟩
  · obtain ⟨us, r, p, z⟩ := I.tuple q
    exact ⟨us, r, p, z⟩
theorem SqK.one (I : Inv X pins σ H s) (q : SqK t X.K H a xs) (q' : SqK t X.K H a ys) : ys = xs := by
  cases t
  · exact I.list_inj q' q
  · exact I.tuple_inj q' q
theorem SqK.below (I : Inv X pins σ H s) (q : SqK t X.K H a xs) : a < s.heap.objs.size := by
  obtain ⟨us, _, p, _⟩ := q.items I
  cases t <;> exact (let ⟨o, e, _⟩ := p; Heap.lt_size e)
end
/-! ### a turn of a walk that hands out new pairs -/
theorem turn_pairs {P : Program} {w : World} {K : Frg} {elts : List Expr} {kk : Nat} {tpos : Pos} {J : It} {fp : List Addr} {it : Addr} {tn : Nat → Heap → Prop} (mem : it ∈ fp)
    (obj : ∀ i h, tn i h → ∀ b ∈ fp, ∃ o, h.get? b = some o ∧ ∀ v, o.data ≠ .cell v) (keep : ∀ i h h', tn i h → (∀ b ∈ fp, ∀ o, h.get? b = some o → h'.get? b = some o) → tn i h')
    (self : ∀ (A : Around) (i : Nat) (s : Shared) (Q : Value → Shared → Prop) (E : Value → Shared → Prop), tn i s.heap → Q (.ref it) s → wpAny (model P w) A (pyIter (.ref it)) Q E s)
    (walk : ∀ (X : L2.Cx), X.prog = P → X.w = w → X.K = K → X.calm = true → ∀ (i : Nat) (pins : List (Addr × Obj)) (s : Shared) (σ : L2.St) (H : Hp), Inv X pins σ H s → tn i s.heap → (J.go i H ∨ J.stop i H) →
      ∃ fpW wr n Pt St Mid, WalksT P w X.A it fpW wr n Pt St Mid ∧ (∀ b ∈ wr, b ∈ fp) ∧ St i s.heap ∧ (J.go i H → i < n) ∧ (J.stop i H → i = n) ∧ (∀ h, St (i + 1) h → tn (i + 1) h) ∧
        ∀ vals, J.go i H → Pt i vals → ∃ x y, Vals [x, y] vals.toList ∧ ∀ T, H T = none → J.yld i H (.ref T) (upd H T (.tup [x, y]))) :
    Turn P w K (.Tuple elts kk tpos) J fp it tn where
  mem := mem
  obj := obj
  keep := keep
  self := self
  item := by
    intro X hP hw hK hc i pins s σ H E I hf st hg
    obtain ⟨fpW, wr, n, Pt, St, Mid, W, within, here, lt, _, up, out⟩ := walk X hP hw hK hc i pins s σ H I st (.inl hg)
    subst hP hw hK
    refine W.item i s _ _ (lt hg) here fun T vals h1 tk pt fresh isT mid k1 => ⟨.ref T, rfl, ?_⟩
    refine W.go elts kk tpos i T { s with heap := h1, toks := tk } _ _ mid fun h2 st2 k2 => ?_
    obtain ⟨x, y, rv, yl⟩ := out vals hg pt
    obtain ⟨o, e, c, m, d⟩ := isT
    have e2 : h2.get? T = some o := k2 T o (W.apart i T _ mid) e
    have new : ObjOk X.prog X.w (upd H T (.tup [x, y])) h2 T (.tup [x, y]) := ⟨by show 2 ≤ sizeLine; decide, vals.toList, rv, o, e2, c, m, by rw [d, Array.toArray_toList]⟩
    refine ⟨.ref T, upd H T (.tup [x, y]), I.turnedNew (fun b ob hb q => k2 b ob hb (k1 b ob hb q)) (fun b hb => hf b (within b hb)) fresh new, rfl, yl T (I.hok.fresh fresh), up h2 st2, fun b hb => ?_⟩
    obtain ⟨ob, q, _⟩ := obj i s.heap st b hb
    rw [upd_ne (Nat.ne_of_lt (Nat.lt_of_lt_of_le (Heap.lt_size q) fresh))]
    exact (hf b hb).1
  done := by
    intro X hP hw hK hc i pins s σ H E I hf st hg
    obtain ⟨fpW, wr, n, Pt, St, Mid, W, within, here, _, eq, _, _⟩ := walk X hP hw hK hc i pins s σ H I st (.inr hg)
    obtain rfl := eq hg
    subst hP hw hK
    exact W.done s _ _ here fun h1 tk k1 => ⟨rfl, I.turnedL k1 fun b hb => hf b (within b hb)⟩
/-! ### enumerate -/
/-- what stands at a, each item in a new pair -/
def IteK (t : Bool) (K : Frg) (a : Addr) : It :=
  ⟨fun i H => ∃ xs x, SqK t K H a xs ∧ xs[i]? = some x, fun i H v H' => ∃ T x, v = .ref T ∧ H T = none ∧ H' = upd H T (.tup [.int (i : Nat), x]) ∧ ∀ xs, SqK t K H a xs → xs[i]? = some x, fun i H => ∃ xs : List V, SqK t K H a xs ∧ xs.length = i⟩
def EnumAt (t : Bool) (a e it : Addr) (i : Nat) (h : Heap) : Prop := (∃ old, IsEnum h e it ((i : Nat) : Int) old) ∧ CurAt t h it a i ∧ e ≠ it ∧ a ≠ it ∧ a ≠ e
theorem turn_enumK {P : Program} {w : World} {K : Frg} {elts : List Expr} {kk : Nat} {tpos : Pos} (t : Bool) (a e it : Addr) : Turn P w K (.Tuple elts kk tpos) (IteK t K a) [e, it] e (EnumAt t a e it) := by
  refine turn_pairs List.mem_cons_self ?_ ?_ (fun A i s Q E st q => wpAny_pyIter_enum st.1.choose_spec q) ?_
  · rintro i h ⟨⟨old, q⟩, c, _⟩ b hb
    cases hb with
    | head => exact ⟨_, q, fun v z => nomatch z⟩
    | tail _ hb => cases List.mem_singleton.mp hb; exact c.live
  · rintro i h h' ⟨⟨old, q⟩, c, ne⟩ k
    exact ⟨⟨old, k e List.mem_cons_self _ q⟩, c.up fun o => k it (List.mem_cons_of_mem _ List.mem_cons_self) o, ne⟩
  · intro X hP hw hK hc i pins s σ H I st any
    subst hP hw hK
    obtain ⟨xs, hq⟩ : ∃ xs, SqK t X.K H a xs := by
      rcases any with ⟨xs, _, q, _⟩ | ⟨xs, q, _⟩ <;> exact ⟨xs, q⟩
    obtain ⟨us, rv, sq, _⟩ := hq.items I
    obtain ⟨old, cur, ne, ni, na⟩ := st
    have D := drawsK t (prog := X.prog) (w := X.w) (A := X.A.in1) (I.ok.hd hc) it a ni us.toArray
    have nfp : e ∉ [it, a] := by
      simp only [List.mem_cons, List.not_mem_nil, or_false, not_or]
      exact ⟨ne, Ne.symm na⟩
    have len : us.toArray.size = xs.length := by rw [List.size_toArray, rv.length]
    refine ⟨_, _, _, _, _, _, WalksT.enumerateD D e ne nfp List.mem_cons_self, fun b hb => hb, ⟨old, cur, sq⟩, ?_, ?_, fun h st2 => ⟨st2.1, st2.2.1, ne, ni, na⟩, ?_⟩
    · rintro ⟨ys, x, q, e1⟩
      rw [hq.one I q] at e1
      rw [len]; exact (List.getElem?_eq_some_iff.mp e1).1
    · rintro ⟨ys, q, e1⟩
      rw [hq.one I q] at e1
      rw [len]; exact e1.symm
    · rintro vals ⟨ys, x, q, e1⟩ ⟨tk, u, e2, rfl⟩
      rw [hq.one I q] at e1
      obtain ⟨u', e3, ru⟩ := rv.get e1
      rw [List.getElem?_toArray, e3] at e2
      cases e2
      exact ⟨.int (i : Nat), x, .cons ⟨tk, rfl⟩ (.cons ru .nil), fun T hT => ⟨T, x, rfl, hT, rfl, fun zs z => by rw [hq.one I z]; exact e1⟩⟩
theorem new_enum {v : Value} {o : Obj} {C : Heap → Prop} (B : Begins v o C) : Meets (Builtin.«enumerate.__new__» ⟨[.type "enumerate", v], []⟩) fun _ R s =>
    C s.heap ∧ R (.ok (.ret (.ref (s.heap.push o).objs.size))) { s with heap := (s.heap.push o).push { cls := .type "enumerate", data := .fields #[.none, .bool false, .ref s.heap.objs.size, rawInt 0, .none, .none] } } := by
  refine .of_wp fun prog w A R s h => ?_
  have sub := sub_enumerate
  rcases s with ⟨hp, gs, dr, tk, os⟩
  have it := fun A' E Q q => B.iter prog w A' E ⟨hp, gs, dr, tk, os⟩ Q h.1 q
  have fin := h.2
  wp_walk using it
  refine wpAny_stack_any fun stk => wpAny_pure ?_
  split
  · next c _ _ _ _ _ => cases c == Value.type "enumerate" <;> (wp_walk using it; exact ⟨_, rfl, fin⟩)
  · wp_walk using it
    exact ⟨_, rfl, fin⟩
theorem call_enumK {X : L2.Cx} {s : Shared} {t : Bool} {a : Addr} {items : Array Value} {Q : Value → Shared → Prop} {E : Value → Shared → Prop} (sq : SeqAt t s.heap a items) (lt : a < s.heap.objs.size)
    (q : ∀ h, EnumAt t a (s.heap.objs.size + 1) s.heap.objs.size 0 h → (∀ b o, s.heap.get? b = some o → h.get? b = some o) → Q (.ref (s.heap.objs.size + 1)) { s with heap := h }) :
    wpAny (model X.prog X.w) X.A (call (.type "enumerate") [.ref a]) Q E s := by
  have B := beginsK t a items
  refine callType_new F.called_enumerate (by decide) (F.typeCall_enumerate_1 _) (F.newCall_enumerate_1 _) (fun obj => F.args_object_init_2 obj _) F.entry_enumerate_new (new_enum B) ⟨sq, ?_⟩
  have size : (s.heap.push (curObj t a)).objs.size = s.heap.objs.size + 1 := Heap.size_push ..
  have at_ := fun o (fr : o.isFreed = false) => Heap.get?_push_size (s.heap.push (curObj t a)) (o := o) fr
  rw [size] at at_
  show _ ∧ _
  rw [size]
  refine ⟨⟨_, at_ _ rfl, rfl⟩, q _ ⟨⟨.none, at_ _ rfl⟩, CurAt.first (Heap.get?_push_of_some _ (Heap.get?_push_size _ B.free)), Nat.succ_ne_self _, Nat.ne_of_lt lt, Nat.ne_of_lt (Nat.lt_succ_of_lt lt)⟩ fun b o z => Heap.get?_push_of_some _ (Heap.get?_push_of_some _ z)⟩
def iEnumK (K : Frg) (ta : TA) : TI := fun σ H R => ta σ H fun vs H1 => ∃ t a xs, vs = [.ref a] ∧ SqK t K H1 a xs ∧ R (IteK t K a) H1
theorem pi_enumK {X : L2.Cx} {e : Expr} {ta : TA} {p pos tpos : Pos} {elts : List Expr} {kk : Nat} (hg : Gl X "enumerate") (hm : X.mg "enumerate" = none) (ha : PA X [e] ta) (hs : starEach [e] X.env = [(false, eval e X.env)]) :
    PI X (.Tuple elts kk tpos) (.Call (.Name "enumerate" p) [e] [] pos) (iEnumK X.K ta) := by
  constructor
  intro pins s σ H R I h
  refine Call_ (ld_blt I hg hm boot_enumerate (PyProof.Rows.callWith_type1 (thn (ha.run pos pins s σ H _ I h) ?_) hs rfl))
  rintro us s1 ⟨vs, H1, I1, r1, t, a, xs, rfl, sq, q⟩
  cases r1 with
  | cons r rr =>
    cases rr
    cases r
    obtain ⟨us, rv, at_, _⟩ := sq.items I1
    refine call_enumK at_ (sq.below I1) fun h st grow => wpAny_pyIter_enum st.1.choose_spec ?_
    refine ⟨_, [s1.heap.objs.size + 1, s1.heap.objs.size], _, _, H1, rfl, I1.kept (t' := s1.toks) grow, turn_enumK t a _ _, st, fun b hb => ?_, q⟩
    have old : s1.heap.objs.size ≤ b := by
      cases hb with
      | head => exact Nat.le_succ _
      | tail _ hb => cases List.mem_singleton.mp hb; exact Nat.le_refl _
    exact I1.fpOk old (I1.hok.fresh old)
/-! ### zip -/
def ItzK (t t2 : Bool) (K : Frg) (a b : Addr) : It :=
  ⟨fun i H => ∃ xs ys x y, SqK t K H a xs ∧ SqK t2 K H b ys ∧ xs[i]? = some x ∧ ys[i]? = some y,
   fun i H v H' => ∃ T x y, v = .ref T ∧ H T = none ∧ H' = upd H T (.tup [x, y]) ∧ (∀ xs, SqK t K H a xs → xs[i]? = some x) ∧ ∀ ys, SqK t2 K H b ys → ys[i]? = some y,
   fun i H => ∃ xs ys : List V, SqK t K H a xs ∧ SqK t2 K H b ys ∧ min xs.length ys.length = i⟩
def ZipAt (t t2 : Bool) (a b N : Addr) (i : Nat) (h : Heap) : Prop :=
  IsZip h (N + 4) (N + 2) (N + 3) .none ∧ IsTupOf2 h (N + 2) (.ref N) (.ref (N + 1)) ∧ (∃ x y, IsTupOf2 h (N + 3) x y) ∧ CurAt t h N a i ∧ CurAt t2 h (N + 1) b i ∧ a < N ∧ b < N
theorem turn_zipK {P : Program} {w : World} {K : Frg} {elts : List Expr} {kk : Nat} {tpos : Pos} (t t2 : Bool) (a b N : Addr) :
    Turn P w K (.Tuple elts kk tpos) (ItzK t t2 K a b) [N + 4, N + 2, N + 3, N, N + 1] (N + 4) (ZipAt t t2 a b N) := by
  refine turn_pairs List.mem_cons_self ?_ ?_ (fun A i s Q E st q => wpAny_pyIter_zip st.1 q) ?_
  · rintro i h ⟨hz, hi, ⟨x, y, ho⟩, c1, c2, _⟩ c hc
    simp only [List.mem_cons, List.not_mem_nil, or_false] at hc
    rcases hc with rfl | rfl | rfl | rfl | rfl
    · exact ⟨_, hz, fun v z => nomatch z⟩
    · exact ⟨_, hi, fun v z => nomatch z⟩
    · exact ⟨_, ho, fun v z => nomatch z⟩
    · exact c1.live
    · exact c2.live
  · rintro i h h' ⟨hz, hi, ⟨x, y, ho⟩, c1, c2, r⟩ k
    simp only [List.mem_cons, List.not_mem_nil, or_false, forall_eq_or_imp, forall_eq] at k
    exact ⟨k.1 _ hz, k.2.1 _ hi, ⟨x, y, k.2.2.1 _ ho⟩, c1.up fun o => k.2.2.2.1 o, c2.up fun o => k.2.2.2.2 o, r⟩
  · intro X hP hw hK hc i pins s σ H I st any
    subst hP hw hK
    obtain ⟨xs, ys, hx, hy⟩ : ∃ xs ys, SqK t X.K H a xs ∧ SqK t2 X.K H b ys := by
      rcases any with ⟨xs, ys, _, _, q, q2, _⟩ | ⟨xs, ys, q, q2, _⟩ <;> exact ⟨xs, ys, q, q2⟩
    obtain ⟨us, rv, sq, _⟩ := hx.items I
    obtain ⟨us2, rv2, sq2, _⟩ := hy.items I
    obtain ⟨hz, hi, ho, c1, c2, la, lb⟩ := st
    have hh : X.A.in1.handled = none := I.ok.hd hc
    have D := drawsK t (prog := X.prog) (w := X.w) hh N a (Nat.ne_of_lt la) us.toArray
    have D2 := drawsK t2 (prog := X.prog) (w := X.w) hh (N + 1) b (Nat.ne_of_lt (Nat.lt_succ_of_lt lb)) us2.toArray
    have S := zip_sep2 (N := N) (fp1 := [a]) (fp2 := [b]) (fun c hc => by cases List.mem_singleton.mp hc; exact la) (fun c hc => by cases List.mem_singleton.mp hc; exact lb)
    have len : min us.toArray.size us2.toArray.size = min xs.length ys.length := by rw [List.size_toArray, List.size_toArray, rv.length, rv2.length]
    have W := WalksT.zipD2 S D D2
    refine ⟨_, _, _, _, _, _, W, fun c hc => ?_, ⟨hz, hi, ho, ⟨c1, sq⟩, c2, sq2⟩, ?_, ?_, fun h ⟨z1, z2, z3, z4, z5⟩ => ⟨z1, z2, z3, z4.1, z5.1, la, lb⟩, ?_⟩
    · simp only [List.mem_cons, List.not_mem_nil, or_false] at hc ⊢
      rcases hc with rfl | rfl | rfl | rfl <;> simp
    · rintro ⟨xs', ys', x, y, q, q2, e1, e2⟩
      rw [hx.one I q] at e1
      rw [hy.one I q2] at e2
      rw [len]
      exact Nat.lt_min.mpr ⟨(List.getElem?_eq_some_iff.mp e1).1, (List.getElem?_eq_some_iff.mp e2).1⟩
    · rintro ⟨xs', ys', q, q2, e1⟩
      rw [hx.one I q, hy.one I q2] at e1
      rw [len, e1]
    · rintro vals ⟨xs', ys', x, y, q, q2, e1, e2⟩ ⟨u, u2, p1, p2, rfl⟩
      rw [hx.one I q] at e1
      rw [hy.one I q2] at e2
      obtain ⟨v, f1, ru⟩ := rv.get e1
      obtain ⟨v2, f2, ru2⟩ := rv2.get e2
      rw [List.getElem?_toArray, f1] at p1
      rw [List.getElem?_toArray, f2] at p2
      cases p1
      cases p2
      exact ⟨x, y, .cons ru (.cons ru2 .nil), fun T hT => ⟨T, x, y, rfl, hT, rfl, fun zs z => by rw [hx.one I z]; exact e1, fun zs z => by rw [hy.one I z]; exact e2⟩⟩
def iZipK (K : Frg) (ta : TA) : TI := fun σ H R => ta σ H fun vs H1 => ∃ t t2 a b xs ys, vs = [.ref a, .ref b] ∧ SqK t K H1 a xs ∧ SqK t2 K H1 b ys ∧ R (ItzK t t2 K a b) H1
theorem pi_zipK {X : L2.Cx} {e e2 : Expr} {ta : TA} {p pos tpos : Pos} {elts : List Expr} {kk : Nat} (hg : Gl X "zip") (hm : X.mg "zip" = none) (ha : PA X [e, e2] ta)
    (hs : starEach [e, e2] X.env = (false, eval e X.env) :: starEach [e2] X.env) (hpl : (backTo pos (starEach [e2] X.env)).any (·.1) = false) :
    PI X (.Tuple elts kk tpos) (.Call (.Name "zip" p) [e, e2] [] pos) (iZipK X.K ta) := by
  constructor
  intro pins s σ H R I h
  refine Call_ (ld_blt I hg hm PyProof.Rows.boot_zip (PyProof.Rows.callWith_type1 (thn (ha.run pos pins s σ H _ I h) ?_) hs hpl))
  rintro us s1 ⟨vs, H1, I1, r1, t, t2, a, b, xs, ys, rfl, sx, sy, q⟩
  cases r1 with
  | cons r rr =>
    cases rr with
    | cons r' rr =>
      cases rr
      cases r
      cases r'
      obtain ⟨us, rv, ax, _⟩ := sx.items I1
      obtain ⟨us2, rv2, ay, _⟩ := sy.items I1
      refine zip_begins2 (beginsK t a us.toArray) (beginsK t2 b us2.toArray) ax ay fun h hz hi ho c1 c2 _ grow => wpAny_pyIter_zip hz ?_
      refine ⟨_, _, _, _, H1, rfl, I1.kept (t' := s1.toks) grow, turn_zipK t t2 a b s1.heap.objs.size, ⟨hz, hi, ⟨_, _, ho⟩, CurAt.first c1, CurAt.first c2, sx.below I1, sy.below I1⟩, fun c hc => ?_, q⟩
      have old : s1.heap.objs.size ≤ c := by
        simp only [List.mem_cons, List.not_mem_nil, or_false] at hc
        rcases hc with rfl | rfl | rfl | rfl | rfl <;> first | exact Nat.le_add_right _ _ | exact Nat.le_refl _
      exact I1.fpOk old (I1.hok.fresh old)
end LP
set_option autoImplicit false
set_option linter.all false
set_option maxRecDepth 100000
set_option maxHeartbeats 1000000
/-! LPSrc: what is walked. -/
namespace LP
open PySem PySem.Spec PyProof.Rows L2
/-- the walk J goes through the data ds as long as only places of W have changed -/
structure Wk (K : Frg) (P W : List Addr) (ds : List D) (J : It) (H0 : Hp) : Prop where
  stop : ∀ i H, Frm W H0 H → i = ds.length → J.stop i H
  go : ∀ i H d, Frm W H0 H → ds[i]? = some d → J.go i H
  yld : ∀ i H d x H' P', Frm W H0 H → (∀ p ∈ P', p ∈ P ∨ H0 p = none) → ds[i]? = some d → J.yld i H x H' → Frm [] H H' ∧ DR K H' P' d x
/-- a source's reading -/
def tI (K : Frg) (nr : Nat) (G : Gx) (e : E) : TI := fun σ H R =>
  ∃ P W ps vs cs d cs' ds, RV K P W nr ps vs cs σ H ∧ evE G e vs cs = .ok (d, cs') ∧ seqOf d = .ok ds ∧
    ∀ J H', Aft K P W nr ps vs σ H (quiet e) cs cs' H' → ds.length ≤ sz → (owned e = true → Wk K P W ds J H') → Wk K P [] ds J H' → R J H'
section
variable {K : Frg} {P W : List Addr} {H0 H H' : Hp}
variable {P' : List Addr}
/-- over a heap that has grown, the writable places changed, other places protected -/
theorem LA.carry (hW : ∀ p ∈ W, p ∈ P) (pr : Prot P H0) (f : Frm W H0 H) (hP : ∀ p ∈ P', p ∈ P ∨ H0 p = none) {a : Addr} {xs : List V} (h : LA K H0 P a xs) : LA K H P' a xs := by
  rcases h with ⟨h, n⟩ | ⟨o, h⟩ | h
  · refine .inl ⟨f a _ (fun z => n (hW a z)) h, fun z => ?_⟩
    rcases hP a z with z | z
    · exact n z
    · rw [h] at z; cases z
  · exact .inr (.inl ⟨o, f a _ (fun z => pr.nofrz h (hW a z)) h⟩)
  · exact .inr (.inr h)
theorem DR.carry (hW : ∀ p ∈ W, p ∈ P) (pr : Prot P H0) (f : Frm W H0 H) (hP : ∀ p ∈ P', p ∈ P ∨ H0 p = none) {d : D} {x : V} (h : DR K H0 P d x) : DR K H P' d x :=
  DR.imp (fun _ _ => LA.carry hW pr f hP) (fun _ _ => sqT_frm hW pr f) d x h
theorem DRs.carry (hW : ∀ p ∈ W, p ∈ P) (pr : Prot P H0) (f : Frm W H0 H) (hP : ∀ p ∈ P', p ∈ P ∨ H0 p = none) {ds : List D} {xs : List V} (h : DRs K H0 P ds xs) : DRs K H P' ds xs :=
  DRs.imp (fun _ _ => LA.carry hW pr f hP) (fun _ _ => sqT_frm hW pr f) ds xs h
theorem DRs.at (hW : ∀ p ∈ W, p ∈ P) (pr : Prot P H0) (f : Frm W H0 H) (hP : ∀ p ∈ P', p ∈ P ∨ H0 p = none) {ds : List D} {xs : List V} {i : Nat} {d : D} (h : DRs K H0 P ds xs) (e : ds[i]? = some d) : ∃ x, xs[i]? = some x ∧ DR K H P' d x :=
  (h.carry hW pr f hP).get e
theorem wk_list {a : Addr} {xs : List V} {ds : List D} (hW : ∀ p ∈ W, p ∈ P) (pr : Prot P H0) (hq : SqL K H0 a xs) (hk : ∀ H, Frm W H0 H → SqL K H a xs) (hd : DRs K H0 P ds xs) : Wk K P W ds (Itl K a) H0 where
  stop := fun i H f e => ⟨xs, hk H f, by rw [hd.length, e]; exact Nat.le_refl _⟩
  go := fun i H d f e => by
    obtain ⟨x, e1, _⟩ := hd.get e
    exact ⟨xs, x, hk H f, e1⟩
  yld := fun i H d x H' P' f hP e y => by
    obtain ⟨rfl, y⟩ := y
    obtain ⟨x', e1, dr⟩ := DRs.at hW pr f hP hd e
    have := y xs (hk _ f)
    rw [e1] at this; cases this
    exact ⟨Frm.refl _ _, dr⟩
theorem wk_tup {a : Addr} {xs : List V} {ds : List D} (hW : ∀ p ∈ W, p ∈ P) (pr : Prot P H0) (hq : SqT K H0 a xs) (hd : DRs K H0 P ds xs) : Wk K P W ds (Itt K a) H0 where
  stop := fun i H f e => ⟨xs, sqT_frm hW pr f hq, by rw [hd.length, e]; exact Nat.le_refl _⟩
  go := fun i H d f e => by
    obtain ⟨x, e1, _⟩ := hd.get e
    exact ⟨xs, x, sqT_frm hW pr f hq, e1⟩
  yld := fun i H d x H' P' f hP e y => by
    obtain ⟨rfl, y⟩ := y
    obtain ⟨x', e1, dr⟩ := DRs.at hW pr f hP hd e
    have := y xs (sqT_frm hW pr f hq)
    rw [e1] at this; cases this
    exact ⟨Frm.refl _ _, dr⟩
theorem wk_str {x : Str} : Wk K P W (signs x) (Its x) H0 where
  stop := fun i H f e => by
    show x.cps.size ≤ i
    rw [e]
    simp [signs]
  go := fun i H d f e => by
    show i < x.cps.size
    have := (List.getElem?_eq_some_iff.mp e).1
    simpa [signs] using this
  yld := fun i H d v H' P' f hP e y => by
    obtain ⟨rfl, c, y1, rfl⟩ := y
    refine ⟨Frm.refl _ _, ?_⟩
    have e2 : d = .str ⟨#[c]⟩ := by
      simp only [signs, List.getElem?_map, Array.getElem?_toList, y1, Option.map_some] at e
      exact (Option.some.inj e).symm
    subst e2
    simp only [DR]
theorem wk_range {lo : Int} {n : Nat} : Wk K P W ((List.range n).map fun (k : Nat) => .int (lo + (k : Int))) (Itr lo n) H0 where
  stop := fun i H f e => by
    show n ≤ i
    rw [e]; simp
  go := fun i H d f e => by
    show i < n
    have := (List.getElem?_eq_some_iff.mp e).1
    simpa using this
  yld := fun i H d v H' P' f hP e y => by
    obtain ⟨rfl, rfl⟩ := y
    refine ⟨Frm.refl _ _, ?_⟩
    have hi : i < n := by
      have := (List.getElem?_eq_some_iff.mp e).1
      simpa using this
    have e2 : d = .int (lo + (i : Int)) := by
      rw [List.getElem?_map, List.getElem?_range hi] at e
      exact (Option.some.inj e).symm
    subst e2
    simp only [DR]
theorem pair_dr (pr : Prot P H) {T : Addr} (hT : H T = none) {d1 d2 : D} {x y : V} (h1 : DR K H P d1 x) (h2 : DR K H P d2 y) : DR K (upd H T (.tup [x, y])) P (.tuple [d1, d2]) (.ref T) := by
  have f : Frm [] H (upd H T (.tup [x, y])) := Frm.new hT
  simp only [DR]
  refine ⟨T, [x, y], rfl, .inl (.inl upd_same), ?_⟩
  simp only [DRs]
  exact ⟨x, [y], rfl, h1.frm (W := []) (by simp) pr f, y, [], rfl, h2.frm (W := []) (by simp) pr f, rfl⟩
theorem numbered_at {ds : List D} {i : Nat} {d : D} (e : (numbered ds)[i]? = some d) : ∃ d', ds[i]? = some d' ∧ d = .tuple [.int (i : Int), d'] := by
  unfold numbered at e
  rw [List.getElem?_map, List.getElem?_zipIdx] at e
  cases h : ds[i]? with
  | none => rw [h] at e; cases e
  | some d' =>
    rw [h] at e
    simp at e
    exact ⟨d', rfl, e.symm⟩
theorem numbered_len (ds : List D) : (numbered ds).length = ds.length := by simp [numbered]
/-- P stays protected while only W changes -/
theorem prot_frm (hW : ∀ p ∈ W, p ∈ P) (pr : Prot P H0) (f : Frm W H0 H) (hm : ∀ p ∈ W, Mut (H p)) : Prot P H := fun p hp => by
  by_cases hw : p ∈ W
  · exact hm p hw
  · obtain ⟨o, e⟩ := pr.some hp
    have := pr p hp
    rw [e] at this
    rw [f p o hw e]
    exact this
/-- a new pair, in a heap in which the parts are known -/
theorem pair_dr' {T : Addr} (hT : H T = none) {d1 d2 : D} {x y : V} (h1 : DR K H P d1 x) (h2 : DR K H P d2 y) : DR K (upd H T (.tup [x, y])) P (.tuple [d1, d2]) (.ref T) := by
  have up : ∀ {d z}, DR K H P d z → DR K (upd H T (.tup [x, y])) P d z := fun {d z} h => by
    refine DR.imp (fun a xs h => ?_) (fun a xs h => ?_) d z h
    · rcases h with ⟨h, n⟩ | ⟨o, h⟩ | h
      · exact .inl ⟨by rw [upd_ne (ne_of_none h hT)]; exact h, n⟩
      · exact .inr (.inl ⟨o, by rw [upd_ne (ne_of_none h hT)]; exact h⟩)
      · exact .inr (.inr h)
    · rcases h with (h | ⟨o, h⟩) | h
      · exact .inl (.inl (by rw [upd_ne (ne_of_none h hT)]; exact h))
      · exact .inl (.inr ⟨o, by rw [upd_ne (ne_of_none h hT)]; exact h⟩)
      · exact .inr h
  simp only [DR]
  refine ⟨T, [x, y], rfl, .inl (.inl upd_same), ?_⟩
  simp only [DRs]
  exact ⟨x, [y], rfl, up h1, y, [], rfl, up h2, rfl⟩
theorem wk_enum {t : Bool} {a : Addr} {xs : List V} {ds : List D} (hW : ∀ p ∈ W, p ∈ P) (pr : Prot P H0) (hk : ∀ H, Frm W H0 H → SqK t K H a xs) (hd : DRs K H0 P ds xs) : Wk K P W (numbered ds) (IteK t K a) H0 where
  stop := fun i H f e => ⟨xs, hk H f, by rw [hd.length, e, numbered_len]⟩
  go := fun i H d f e => by
    obtain ⟨d', e', _⟩ := numbered_at e
    obtain ⟨x, e1, _⟩ := hd.get e'
    exact ⟨xs, x, hk H f, e1⟩
  yld := fun i H d v H' P' f hP e y => by
    obtain ⟨T, x, rfl, hT, rfl, y⟩ := y
    obtain ⟨d', e', rfl⟩ := numbered_at e
    obtain ⟨x', e1, dr⟩ := DRs.at hW pr f hP hd e'
    have := y xs (hk _ f)
    rw [e1] at this; cases this
    exact ⟨Frm.new hT, pair_dr' hT (by simp only [DR]) dr⟩
theorem pairs_at {xs ys : List D} {i : Nat} {d : D} (e : (pairs xs ys)[i]? = some d) : ∃ d1 d2, xs[i]? = some d1 ∧ ys[i]? = some d2 ∧ d = .tuple [d1, d2] := by
  unfold pairs at e
  rw [List.getElem?_map] at e
  cases h : (xs.zip ys)[i]? with
  | none => rw [h] at e; cases e
  | some p =>
    rw [h] at e
    obtain ⟨h1, h2⟩ := List.getElem?_zip_eq_some.mp h
    simp at e
    exact ⟨p.1, p.2, h1, h2, e.symm⟩
theorem pairs_len (xs ys : List D) : (pairs xs ys).length = min xs.length ys.length := by simp [pairs]
theorem wk_zip {t t2 : Bool} {a b : Addr} {xs ys : List V} {ds es : List D} (hW : ∀ p ∈ W, p ∈ P) (pr : Prot P H0) (hk : ∀ H, Frm W H0 H → SqK t K H a xs) (hk2 : ∀ H, Frm W H0 H → SqK t2 K H b ys) (hd : DRs K H0 P ds xs) (he : DRs K H0 P es ys) : Wk K P W (pairs ds es) (ItzK t t2 K a b) H0 where
  stop := fun i H f e => ⟨xs, ys, hk H f, hk2 H f, by rw [hd.length, he.length, e, pairs_len]⟩
  go := fun i H d f e => by
    obtain ⟨d1, d2, e1, e2, _⟩ := pairs_at e
    obtain ⟨x, f1, _⟩ := hd.get e1
    obtain ⟨y, f2, _⟩ := he.get e2
    exact ⟨xs, ys, x, y, hk H f, hk2 H f, f1, f2⟩
  yld := fun i H d v H' P' f hP e y => by
    obtain ⟨T, x, y, rfl, hT, rfl, y1, y2⟩ := y
    obtain ⟨d1, d2, e1, e2, rfl⟩ := pairs_at e
    obtain ⟨x', f1, dr1⟩ := DRs.at hW pr f hP hd e1
    obtain ⟨y', f2, dr2⟩ := DRs.at hW pr f hP he e2
    have h1 := y1 xs (hk _ f)
    have h2 := y2 ys (hk2 _ f)
    rw [f1] at h1; cases h1
    rw [f2] at h2; cases h2
    exact ⟨Frm.new hT, pair_dr' hT dr1 dr2⟩
/-- a list that is not protected stays -/
theorem LA.stays (hW : ∀ p ∈ W, p ∈ P) (pr : Prot P H0) {a : Addr} {xs : List V} (h : LA K H0 P a xs) : ∀ H, Frm W H0 H → SqL K H a xs := fun _ f => (h.frm hW pr f).sq
theorem SqL.stays {a : Addr} {xs : List V} (h : SqL K H0 a xs) : ∀ H, Frm [] H0 H → SqL K H a xs := fun H f => by
  rcases h with (h | ⟨o, h⟩) | h
  · exact .inl (.inl (f _ _ (by simp) h))
  · exact .inl (.inr ⟨o, f _ _ (by simp) h⟩)
  · exact .inr h
end
section
variable {X : L2.Cx} {nr : Nat} {G : Gx} {fr : Nat → Bool} {pos p p2 : Pos} {tg a b c : Expr} {e1 e2 e3 : E}
/-- lists in hand: where they lie, and that they stay -/
theorem PE.piv (h : PE X a (tE X.K nr G fr e1)) : PI X tg a (tI X.K nr G e1) := by
  refine ⟨fun pins s σ H R I q => ?_⟩
  obtain ⟨P, W, ps, vs, cs, d, cs', ds, R0, ev, sq, q⟩ := q
  have key : tE X.K nr G fr e1 σ H (fun x H' => Pst X.K P W nr ps vs σ H fr e1 cs cs' d x H') := ⟨P, W, ps, vs, cs, d, cs', R0, ev, fun x H' p => p⟩
  cases d with
  | list c =>
    have sqe : c = ds := by cases sq; rfl
    subst sqe
    refine (pi_list (tl := fun σ' H'' Q => σ' = σ ∧ H'' = H ∧ (∀ x H', Pst X.K P W nr ps vs σ H fr e1 cs cs' (.list c) x H' → Q x H')) (PE.weak h fun σ' H'' Q z => ?_)).run pins s σ H R I ⟨rfl, rfl, fun x H' p => ?_⟩
    · obtain ⟨rfl, rfl, z⟩ := z
      exact ⟨P, W, ps, vs, cs, _, cs', R0, ev, z⟩
    · obtain ⟨a0, xs, rfl, h1, h2⟩ := p.db.list
      refine ⟨a0, rfl, ⟨xs, h1⟩, q _ _ p.aft (p.siz c (.inl rfl)) (fun ow => ?_) (wk_list (by simp) p.aft.rv.pr h1 (SqL.stays h1) h2)⟩
      have dr := p.own ow
      simp only [DR] at dr
      obtain ⟨a1, xs1, e, h3, h4⟩ := dr
      cases e
      exact wk_list p.aft.rv.sub p.aft.rv.pr h3.sq (h3.stays p.aft.rv.sub p.aft.rv.pr) h4
  | tuple c =>
    have sqe : c = ds := by cases sq; rfl
    subst sqe
    refine (pi_tup (tl := fun σ' H'' Q => σ' = σ ∧ H'' = H ∧ (∀ x H', Pst X.K P W nr ps vs σ H fr e1 cs cs' (.tuple c) x H' → Q x H')) (PE.weak h fun σ' H'' Q z => ?_)).run pins s σ H R I ⟨rfl, rfl, fun x H' p => ?_⟩
    · obtain ⟨rfl, rfl, z⟩ := z
      exact ⟨P, W, ps, vs, cs, _, cs', R0, ev, z⟩
    · obtain ⟨a0, xs, rfl, h1, h2⟩ := p.db.tuple
      exact ⟨a0, rfl, ⟨xs, h1⟩, q _ _ p.aft (p.siz c (.inr rfl)) (fun ow => wk_tup p.aft.rv.sub p.aft.rv.pr h1 h2) (wk_tup (by simp) p.aft.rv.pr h1 h2)⟩
  | str z =>
    simp only [seqOf] at sq
    obtain ⟨_, sq1, sq⟩ := LP.R.bind_ok sq
    cases sq
    refine (pi_str (te := fun σ' H'' Q => σ' = σ ∧ H'' = H ∧ (∀ x H', Pst X.K P W nr ps vs σ H fr e1 cs cs' (.str z) x H' → Q x H')) (PE.weak h fun σ' H'' Q z => ?_)).run pins s σ H R I ⟨rfl, rfl, fun x H' p => ?_⟩
    · obtain ⟨rfl, rfl, z⟩ := z
      exact ⟨P, W, ps, vs, cs, _, cs', R0, ev, z⟩
    · refine ⟨z, p.db.str, q _ _ p.aft ?_ (fun _ => wk_str) wk_str⟩
      have := of_decide_eq_true (LP.R.chk_ok sq1)
      simpa [signs, Str.length] using this
  | _ => cases sq
theorem PI.weak {wi wi' : TI} (h : PI X tg a wi) (w : ∀ σ H R, wi' σ H R → wi σ H R) : PI X tg a wi' := ⟨fun pins s σ H R I q => h.run pins s σ H R I (w σ H R q)⟩
theorem s_rng1 (hg : Gl X "range") (hm : X.mg "range" = none) (ha : PE X a (tE X.K nr G fr e1)) (hs : noStar a = true) : PI X tg (.Call (.Name "range" p) [a] [] pos) (tI X.K nr G (.rng1 e1)) :=
  PI.weak (pi_range1 hg hm (pa_cons ha pa_nil (star_cons hs)) (star_cons hs)) fun σ H R q => by
    obtain ⟨P, W, ps, vs, cs, d, cs', ds, R0, ev, sq, q⟩ := q
    simp only [evE] at ev
    obtain ⟨⟨d1, cs1⟩, ev1, ev⟩ := LP.R.bind_ok ev
    obtain ⟨n, ev2, ev⟩ := LP.R.bind_ok ev
    obtain ⟨_, ev3, ev⟩ := LP.R.bind_ok ev
    cases ev
    cases sq
    have ev3 := of_decide_eq_true (LP.R.chk_ok ev3)
    cases d1 with
    | int i =>
      cases ev2
      refine ⟨P, W, ps, vs, cs, _, _, R0, ev1, fun x H1 p1 => ⟨n, by rw [p1.db.int], ev3.2, by have := ev3.1; simp only [sz] at this; omega, ?_⟩⟩
      have e0 : (List.range n.toNat).map (fun (k : Nat) => PyData.int (k : Int)) = (List.range n.toNat).map fun (k : Nat) => .int (0 + (k : Int)) := by simp
      refine q _ _ p1.aft (by rw [List.length_map, List.length_range]; have := ev3.1; simp only [sz] at this ⊢; omega) (fun _ => ?_) ?_
      · rw [e0]; exact wk_range
      · rw [e0]; exact wk_range
    | _ => cases ev2
theorem s_rng2 (hg : Gl X "range") (hm : X.mg "range" = none) (ha : PE X a (tE X.K nr G fr e1)) (hb : PE X b (tE X.K nr G fr e2)) (hs : noStar a = true) (hs2 : noStar b = true) (wf : (owned e1 || quiet e2) = true) : PI X tg (.Call (.Name "range" p) [a, b] [] pos) (tI X.K nr G (.rng2 e1 e2)) :=
  PI.weak (pi_range2 hg hm (pa_cons ha (pa_cons hb pa_nil (star_cons hs2)) (star_cons hs)) (by rw [star_cons hs, star_cons hs2]; rfl) (star_cons hs2)) fun σ H R q => by
    obtain ⟨P, W, ps, vs, cs, d, cs', ds, R0, ev, sq, q⟩ := q
    simp only [evE] at ev
    obtain ⟨⟨d1, cs1⟩, ev1, ev⟩ := LP.R.bind_ok ev
    obtain ⟨⟨d2, cs2⟩, ev2, ev⟩ := LP.R.bind_ok ev
    obtain ⟨m, ev3, ev⟩ := LP.R.bind_ok ev
    obtain ⟨n, ev4, ev⟩ := LP.R.bind_ok ev
    obtain ⟨_, ev5, ev⟩ := LP.R.bind_ok ev
    cases ev
    cases sq
    have ev5 := of_decide_eq_true (LP.R.chk_ok ev5)
    cases d1 with
    | int i =>
      cases ev3
      cases d2 with
      | int j =>
        cases ev4
        refine ⟨P, W, ps, vs, cs, _, _, R0, ev1, fun x H1 p1 => ⟨P, W, ps, vs, cs1, _, _, p1.aft.rv, ev2, fun y H2 p2 => ⟨m, n, by rw [p1.db.int, p2.db.int], ⟨ev5.2.2.1, ev5.2.2.2.2, ev5.2.1, ev5.2.2.2.1⟩, ?_⟩⟩⟩
        exact q _ _ (p1.aft.trans p2.aft) (by rw [List.length_map, List.length_range]; have := ev5.1; omega) (fun _ => wk_range) wk_range
      | _ => cases ev4
    | _ => cases ev3
/-- the row at a, of a datum that is a row; it stays while only W changes -/
theorem row_open {K : Frg} {H : Hp} {P : List Addr} {d : D} {x : V} {c : List D} (hd : d = .list c ∨ d = .tuple c) (dr : DR K H P d x) : ∃ t a xs, x = .ref a ∧ DRs K H P c xs ∧ SqK t K H a xs ∧
    ∀ W, (∀ p ∈ W, p ∈ P) → Prot P H → ∀ H', Frm W H H' → SqK t K H' a xs := by
  rcases hd with rfl | rfl
  · simp only [DR] at dr
    obtain ⟨a, xs, rfl, h3, h4⟩ := dr
    exact ⟨false, a, xs, rfl, h4, h3.sq, fun W hW pr => h3.stays hW pr⟩
  · simp only [DR] at dr
    obtain ⟨a, xs, rfl, h3, h4⟩ := dr
    exact ⟨true, a, xs, rfl, h4, h3, fun W hW pr H' f => sqT_frm hW pr f h3⟩
theorem s_enum {elts : List Expr} {kk : Nat} {tpos : Pos} (hg : Gl X "enumerate") (hm : X.mg "enumerate" = none) (ha : PE X a (tE X.K nr G fr e1)) (hs : noStar a = true) (ow : owned e1 = true) :
    PI X (.Tuple elts kk tpos) (.Call (.Name "enumerate" p) [a] [] pos) (tI X.K nr G (.enum e1)) :=
  PI.weak (pi_enumK hg hm (pa_cons ha pa_nil (star_cons hs)) (star_cons hs)) fun σ H R q => by
    obtain ⟨P, W, ps, vs, cs, d, cs', ds, R0, ev, sq, q⟩ := q
    simp only [evE] at ev
    obtain ⟨⟨d1, cs1⟩, ev1, ev⟩ := LP.R.bind_ok ev
    obtain ⟨xs, ev2, ev⟩ := LP.R.bind_ok ev
    cases ev
    cases sq
    refine ⟨P, W, ps, vs, cs, _, _, R0, ev1, fun x H1 p1 => ?_⟩
    have is : d1 = .list xs ∨ d1 = .tuple xs := by
      cases d1 <;> first | (cases ev2; exact .inl rfl) | (cases ev2; exact .inr rfl) | cases ev2
    obtain ⟨t, a1, xs1, rfl, h4, sq, st⟩ := row_open is (p1.own ow)
    exact ⟨t, a1, xs1, rfl, sq, q _ _ p1.aft (by rw [numbered_len]; exact p1.siz _ is) (fun _ => wk_enum p1.aft.rv.sub p1.aft.rv.pr (st _ p1.aft.rv.sub p1.aft.rv.pr) h4) (wk_enum (by simp) p1.aft.rv.pr (st [] (by simp) p1.aft.rv.pr) h4)⟩
theorem s_zip {elts : List Expr} {kk : Nat} {tpos : Pos} (hg : Gl X "zip") (hm : X.mg "zip" = none) (ha : PE X a (tE X.K nr G fr e1)) (hb : PE X b (tE X.K nr G fr e2)) (hs : noStar a = true) (hs2 : noStar b = true) (ow : (owned e1 && owned e2) = true) :
    PI X (.Tuple elts kk tpos) (.Call (.Name "zip" p) [a, b] [] pos) (tI X.K nr G (.zip e1 e2)) :=
  PI.weak (pi_zipK hg hm (pa_cons ha (pa_cons hb pa_nil (star_cons hs2)) (star_cons hs)) (star_cons hs) (star_any (by simp [hs2]))) fun σ H R q => by
    obtain ⟨P, W, ps, vs, cs, d, cs', ds, R0, ev, sq, q⟩ := q
    rw [Bool.and_eq_true] at ow
    simp only [evE] at ev
    obtain ⟨⟨d1, cs1⟩, ev1, ev⟩ := LP.R.bind_ok ev
    obtain ⟨⟨d2, cs2⟩, ev2, ev⟩ := LP.R.bind_ok ev
    obtain ⟨r, ev3, ev⟩ := LP.R.bind_ok ev
    cases ev
    cases sq
    refine ⟨P, W, ps, vs, cs, _, _, R0, ev1, fun x H1 p1 => ⟨P, W, ps, vs, cs1, _, _, p1.aft.rv, ev2, fun y H2 p2 => ?_⟩⟩
    have dr1 : DR X.K H2 P d1 x := (p1.own ow.1).frm p1.aft.rv.sub p1.aft.rv.pr p2.aft.frm
    have sub := p2.aft.rv.sub
    have pr := p2.aft.rv.pr
    obtain ⟨c, c2, is, is2, rfl⟩ : ∃ c c2, (d1 = .list c ∨ d1 = .tuple c) ∧ (d2 = .list c2 ∨ d2 = .tuple c2) ∧ ds = pairs c c2 := by
      cases d1 <;> first | (cases d2 <;> first | (cases ev3; exact ⟨_, _, by simp, by simp, rfl⟩) | cases ev3) | (cases d2 <;> cases ev3)
    obtain ⟨t, a1, xs1, rfl, h4, sq, st⟩ := row_open is dr1
    obtain ⟨t2, a2, xs2, rfl, h6, sq2, st2⟩ := row_open is2 (p2.own ow.2)
    exact ⟨t, t2, a1, a2, xs1, xs2, rfl, sq, sq2, q _ _ (p1.aft.trans p2.aft) (by rw [pairs_len]; have := p1.siz _ is; omega) (fun _ => wk_zip sub pr (st _ sub pr) (st2 _ sub pr) h4 h6) (wk_zip (by simp) pr (st [] (by simp) pr) (st2 [] (by simp) pr) h4 h6)⟩
end
end LP
set_option autoImplicit false
set_option linter.all false
set_option maxRecDepth 100000
set_option maxHeartbeats 1000000
/-! LPComp: targets, comprehensions. -/
namespace LP
open PySem PySem.Spec PyProof.Rows L2
def tgIx : Tg → List Nat
  | .nm i => [i]
  | .tp is => is
def setAll : List Nat → List V → L2.St → L2.St
  | i :: is, x :: xs, σ => setAll is xs (σ.set i (some x))
  | _, _, σ => σ
theorem setAll_len : ∀ (is : List Nat) (xs : List V) (σ : L2.St), (setAll is xs σ).length = σ.length
  | [], _, _ => by simp [setAll]
  | _ :: _, [], _ => by simp [setAll]
  | i :: is, x :: xs, σ => by rw [setAll, setAll_len is xs, List.length_set]
theorem setAll_ne : ∀ (is : List Nat) (xs : List V) (σ : L2.St) (j : Nat), j ∉ is → (setAll is xs σ)[j]? = σ[j]?
  | [], _, _, _, _ => by simp [setAll]
  | _ :: _, [], _, _, _ => by simp [setAll]
  | i :: is, x :: xs, σ, j, h => by
    rw [setAll, setAll_ne is xs _ j (fun z => h (List.mem_cons_of_mem _ z)), List.getElem?_set_ne (fun z => h (by rw [z]; exact List.mem_cons_self ..))]
/-- a target's reading -/
def tG (K : Frg) : Tg → TG
  | .nm i => gName i
  | .tp is => fun v σ H Q => ∃ a xs, v = .ref a ∧ (SqT K H a xs ∨ SqL K H a xs) ∧ xs.length = is.length ∧ Q (setAll is xs σ) H
section
variable {X : L2.Cx} {pos : Pos}
def isNms (N : List Str) (sc : Scope) (fn : Str → Bool) : List Expr → List Nat → Bool
  | [], [] => true
  | .Name x _ :: es, i :: is => decide (N[i]? = some x) && (decide (sc.names.lookup x = some .local) || (decide (sc.names.lookup x = some .cell) && fn x)) && isNms N sc fn es is
  | _, _ => false
def gNms (is : List Nat) : TGs := fun vs σ H Q => vs.length = is.length ∧ Q (setAll is vs σ) H
theorem loc_of {sc : Scope} {fn : Str → Bool} {x : Str} (h : (decide (sc.names.lookup x = some .local) || (decide (sc.names.lookup x = some .cell) && fn x)) = true) : Loc sc x ∧ (fn x = true ∨ sc.names.lookup x = some .local) := by
  simp only [Bool.or_eq_true, Bool.and_eq_true, decide_eq_true_eq] at h
  rcases h with h | ⟨h, h'⟩
  · exact ⟨.inl h, .inr h⟩
  · exact ⟨.inr h, .inl h'⟩
theorem assignEach_names {N : List Str} {sc : Scope} {fn : Str → Bool} {env : Env} : ∀ {es : List Expr} {is : List Nat}, isNms N sc fn es is = true → (assignEach es env).length = is.length ∧ (assignEach es env).findIdx? (·.1) = none
  | [], [], _ => ⟨rfl, rfl⟩
  | [], _ :: _, h => by cases h
  | e :: es, is, h => by
    cases e with
    | Name x p =>
      cases is with
      | nil => cases h
      | cons i is =>
        simp only [isNms, Bool.and_eq_true] at h
        obtain ⟨h1, h2⟩ := assignEach_names (es := es) (is := is) (env := env) h.2
        have e : assignEach (.Name x p :: es) env = (false, assign (.Name x p) env) :: assignEach es env := rfl
        rw [e]
        refine ⟨by rw [List.length_cons, List.length_cons, h1], ?_⟩
        rw [List.findIdx?_cons, h2]
        rfl
    | _ => cases is <;> cases h
theorem pgs_names (hN : X.N.Nodup) : ∀ {es : List Expr} {is : List Nat}, isNms X.N X.env.scope X.fn es is = true → PGs X es (gNms is)
  | [], [], _ => ⟨fun pins s σ H vs us Q I r h => by
      obtain ⟨h1, h2⟩ := h
      cases vs with
      | nil => exact pgs_nil.run pins s σ H [] us Q I r ⟨rfl, h2⟩
      | cons _ _ => cases h1⟩
  | [], _ :: _, h => by cases h
  | e :: es, is, h => by
    cases e with
    | Name x p =>
      cases is with
      | nil => cases h
      | cons i is =>
        simp only [isNms, Bool.and_eq_true] at h
        obtain ⟨h1, h2⟩ := loc_of h.1.2
        have hi : X.N[i]? = some x := of_decide_eq_true h.1.1
        refine ⟨fun pins s σ H vs us Q I r hq => ?_⟩
        obtain ⟨q1, q2⟩ := hq
        cases vs with
        | nil => cases q1
        | cons v vs => exact (pgs_cons (pg_name (pos := p) hN hi h1 h2) (pgs_names hN h.2)).run pins s σ H (v :: vs) us Q I r ⟨v, vs, rfl, by simpa using q1, q2⟩
    | _ => cases is <;> cases h
/-- is this expression the target? -/
def mTg (N : List Str) (sc : Scope) (fn : Str → Bool) : Expr → Tg → Bool
  | .Name x _, .nm i => isNms N sc fn [.Name x ⟨0, 0, 0, 0⟩] [i]
  | .Tuple es _ _, .tp is => isNms N sc fn es is
  | _, _ => false
theorem pg_tg (hc : X.calm = true) (hN : X.N.Nodup) {ex : Expr} {tg : Tg} (h : mTg X.N X.env.scope X.fn ex tg = true) : PG X ex (tG X.K tg) := by
  cases tg with
  | nm i =>
    cases ex with
    | Name x p =>
      simp only [mTg, isNms, Bool.and_true, Bool.and_eq_true] at h
      obtain ⟨h1, h2⟩ := loc_of h.2
      exact pg_name hN (of_decide_eq_true h.1) h1 h2
    | _ => cases h
  | tp is =>
    cases ex with
    | Tuple es k p =>
      have h : isNms X.N X.env.scope X.fn es is = true := h
      obtain ⟨h1, h2⟩ := assignEach_names (env := X.env) h
      refine ⟨fun pins s σ H v u Q I r hq => ?_⟩
      obtain ⟨a, xs, e, hs, hl, q⟩ := hq
      rcases hs with hs | hs
      · exact (pg_tup (n := is.length) hc (pgs_names hN h) h1 h2).run pins s σ H v u Q I r ⟨a, xs, e, hs, hl, hl, q⟩
      · exact (pg_lst (n := is.length) hc (pgs_names hN h) h1 h2).run pins s σ H v u Q I r ⟨a, xs, e, hs, hl, hl, q⟩
    | _ => cases h
end
section
variable {K : Frg} {P W : List Addr} {nr : Nat} {ps : List Addr} {vs vs' : Vs} {cs : Cs} {σ σ2 : L2.St} {H H' : Hp}
theorem bindAll_len : ∀ {is : List Nat} {ds : List D} {vs vs' : Vs}, bindAll is ds vs = .ok vs' → vs'.length = vs.length ∧ ds.length = is.length
  | [], [], vs, vs', h => by simp only [bindAll] at h; cases h; exact ⟨rfl, rfl⟩
  | [], _ :: _, vs, vs', h => by simp only [bindAll] at h; cases h
  | _ :: _, [], vs, vs', h => by simp only [bindAll] at h; cases h
  | i :: is, d :: ds, vs, vs', h => by
    simp only [bindAll] at h
    obtain ⟨h1, h2⟩ := bindAll_len h
    exact ⟨by rw [h1, List.length_set], by simp [h2]⟩
/-- all slots of a list of names stored -/
theorem RV.setAll : ∀ {is : List Nat} {ds : List D} {xs : List V} {vs vs' : Vs} {σ : L2.St}, RV K P W nr ps vs cs σ H → DRs K H P ds xs → bindAll is ds vs = .ok vs' → RV K P W nr ps vs' cs (LP.setAll is xs σ) H
  | [], [], xs, vs, vs', σ, R, d, h => by
    simp only [bindAll] at h; cases h
    simpa [LP.setAll] using R
  | [], _ :: _, _, vs, vs', _, _, _, h => by simp only [bindAll] at h; cases h
  | _ :: _, [], _, vs, vs', _, _, _, h => by simp only [bindAll] at h; cases h
  | i :: is, d :: ds, xs, vs, vs', σ, R, dr, h => by
    simp only [DRs] at dr
    obtain ⟨y, ys, rfl, h1, h2⟩ := dr
    simp only [bindAll] at h
    rw [LP.setAll]
    exact RV.setAll (R.set h1) h2 h
theorem items_db {d : D} {x : V} {ds : List D} (h : DR K H P d x) (e : itemsOf d = .ok ds) : ∃ a xs, x = .ref a ∧ (SqT K H a xs ∨ SqL K H a xs) ∧ DRs K H P ds xs := by
  cases d with
  | list c =>
    cases e
    simp only [DR] at h
    obtain ⟨a, xs, e, h1, h2⟩ := h
    exact ⟨a, xs, e, .inr h1.sq, h2⟩
  | tuple c =>
    cases e
    simp only [DR] at h
    obtain ⟨a, xs, e, h1, h2⟩ := h
    exact ⟨a, xs, e, .inl h1, h2⟩
  | _ => cases e
/-- a target bound -/
theorem RV.bind {tg : Tg} {d : D} {x : V} (R : RV K P W nr ps vs cs σ H) (dr : DR K H P d x) (hb : bindTg tg d vs = .ok vs') {Q : L2.St → Hp → Prop} (q : ∀ σ2, RV K P W nr ps vs' cs σ2 H → σ2.length = σ.length → (∀ j, j ∉ tgIx tg → σ2[j]? = σ[j]?) → Q σ2 H) : tG K tg x σ H Q := by
  cases tg with
  | nm i =>
    simp only [bindTg] at hb; cases hb
    exact q _ (R.set dr) (by simp) fun j hj => List.getElem?_set_ne (fun z => hj (by rw [z]; exact List.mem_cons_self ..))
  | tp is =>
    simp only [bindTg] at hb
    obtain ⟨ds, h1, hb⟩ := LP.R.bind_ok hb
    obtain ⟨a, xs, rfl, h2, h3⟩ := items_db dr h1
    refine ⟨a, xs, rfl, h2, by rw [h3.length, (bindAll_len hb).2], q _ (RV.setAll R h3 hb) (setAll_len ..) fun j hj => setAll_ne _ _ _ _ hj⟩
/-- what a binding leaves -/
theorem bindAll_ne : ∀ {is : List Nat} {ds : List D} {vs vs' : Vs} {j : Nat}, bindAll is ds vs = .ok vs' → j ∉ is → vs'[j]? = vs[j]?
  | [], [], vs, vs', j, h, _ => by simp only [bindAll] at h; cases h; rfl
  | [], _ :: _, vs, vs', _, h, _ => by simp only [bindAll] at h; cases h
  | _ :: _, [], vs, vs', _, h, _ => by simp only [bindAll] at h; cases h
  | i :: is, d :: ds, vs, vs', j, h, hj => by
    simp only [bindAll] at h
    rw [bindAll_ne h (fun z => hj (List.mem_cons_of_mem _ z)), List.getElem?_set_ne (fun z => hj (by rw [z]; exact List.mem_cons_self ..))]
theorem bindTg_ne {tg : Tg} {d : D} {j : Nat} (h : bindTg tg d vs = .ok vs') (hj : j ∉ tgIx tg) : vs'[j]? = vs[j]? := by
  cases tg with
  | nm i =>
    simp only [bindTg] at h; cases h
    exact List.getElem?_set_ne (fun z => hj (by rw [z]; exact List.mem_cons_self ..))
  | tp is =>
    simp only [bindTg] at h
    obtain ⟨ds, h1, h⟩ := LP.R.bind_ok h
    exact bindAll_ne h hj
/-- the slots of a target forgotten, in both -/
def wipeV (vs : Vs) : List Nat → Vs
  | [] => vs
  | i :: is => (wipeV vs is).set i .un
theorem wipeV_len (vs : Vs) : ∀ is, (wipeV vs is).length = vs.length
  | [] => rfl
  | i :: is => by rw [wipeV, List.length_set, wipeV_len vs is]
theorem wipeV_at (vs : Vs) {j : Nat} {z : Sl} : ∀ {is : List Nat}, (wipeV vs is)[j]? = some z → z ≠ .un → vs[j]? = some z ∧ j ∉ is
  | [], h, _ => ⟨h, by simp⟩
  | i :: is, h, hz => by
    rw [wipeV] at h
    by_cases hi : i = j
    · subst hi
      by_cases hl : i < (wipeV vs is).length
      · rw [List.getElem?_set_self hl] at h; cases h; exact absurd rfl hz
      · rw [List.getElem?_eq_none (by rw [List.length_set]; omega)] at h; cases h
    · rw [List.getElem?_set_ne hi] at h
      obtain ⟨h1, h2⟩ := wipeV_at vs h hz
      exact ⟨h1, fun z => by rcases List.mem_cons.mp z with z | z; exact hi z.symm; exact h2 z⟩
theorem wipe_ne {σ : L2.St} {j : Nat} : ∀ {is : List Nat}, j ∉ is → (L2.wipe σ is)[j]? = σ[j]?
  | [], _ => rfl
  | i :: is, h => by
    rw [L2.wipe, List.getElem?_set_ne (fun z => h (by rw [z]; exact List.mem_cons_self ..)), wipe_ne fun z => h (List.mem_cons_of_mem _ z)]
theorem RV.wiped (R : RV K P W nr ps vs cs σ H) (is : List Nat) : RV K P W nr ps (wipeV vs is) cs (L2.wipe σ is) H :=
  R.weak (by rw [wipeV_len, wipe_length, R.len]) fun i z e hz => by
    obtain ⟨h1, h2⟩ := wipeV_at vs e hz
    exact ⟨h1, wipe_ne h2⟩
theorem wipeV_comm {vs : Vs} {i : Nat} {s : Sl} : ∀ (is : List Nat), i ∈ is → (wipeV vs is).set i s = (wipeV (vs.set i s) is).set i s
  | [], h => by cases h
  | j :: is, h => by
    rw [wipeV, wipeV]
    by_cases hj : j = i
    · subst hj
      rw [List.set_set, List.set_set]
      by_cases hm : j ∈ is
      · exact wipeV_comm is hm
      · clear h
        have : ∀ is : List Nat, j ∉ is → wipeV (vs.set j s) is = (wipeV vs is).set j s := fun is => by
          induction is with
          | nil => intro _; rfl
          | cons k is ih =>
            intro hk
            rw [wipeV, wipeV, ih (fun z => hk (List.mem_cons_of_mem _ z)), List.set_comm _ _ (fun z => hk (by rw [z]; exact List.mem_cons_self ..))]
        rw [this is hm, List.set_set]
    · have hm : i ∈ is := by
        rcases List.mem_cons.mp h with z | z
        · exact absurd z.symm hj
        · exact z
      rw [List.set_comm _ _ hj, List.set_comm _ _ hj, wipeV_comm is hm]
/-- wiping what is set again does not matter -/
theorem wipe_set {σ : L2.St} {vs2 : List Nat} {σ2 : L2.St} (hl : σ2.length = (L2.wipe σ vs2).length) (h : ∀ j, j ∉ vs2 → σ2[j]? = (L2.wipe σ vs2)[j]?) : L2.wipe σ2 vs2 = L2.wipe σ vs2 := by
  apply List.ext_getElem?
  intro j
  by_cases hj : j ∈ vs2
  · have key : ∀ (τ : L2.St) (l : List Nat), j ∈ l → (L2.wipe τ l)[j]? = if j < τ.length then some none else none := fun τ l => by
      induction l with
      | nil => intro h; cases h
      | cons k l ih =>
        intro hk
        rw [L2.wipe]
        by_cases e : k = j
        · subst e
          by_cases hlt : k < (L2.wipe τ l).length
          · rw [List.getElem?_set_self hlt]
            rw [wipe_length] at hlt
            rw [if_pos hlt]
          · rw [List.getElem?_eq_none (by rw [List.length_set]; omega)]
            rw [wipe_length] at hlt
            rw [if_neg hlt]
        · rw [List.getElem?_set_ne e]
          rcases List.mem_cons.mp hk with z | z
          · exact absurd z.symm e
          · exact ih z
    rw [key _ _ hj, key _ _ hj]
    rw [wipe_length] at hl
    rw [hl]
  · rw [wipe_ne hj, h j hj]
end
end LP
set_option autoImplicit false
set_option linter.all false
set_option maxRecDepth 100000
set_option maxHeartbeats 1000000
/-! LPComp2: a comprehension's reading. -/
namespace LP
open PySem PySem.Spec PyProof.Rows L2
theorem bindAll_congr : ∀ {is : List Nat} {ds : List D} {vs1 vs2 v1 : Vs}, vs1.length = vs2.length → (∀ j, j ∉ is → vs1[j]? = vs2[j]?) → bindAll is ds vs1 = .ok v1 → bindAll is ds vs2 = .ok v1
  | [], [], vs1, vs2, v1, hl, h, e => by
    have : vs1 = vs2 := List.ext_getElem? fun j => h j (by simp)
    rw [← this]; exact e
  | [], _ :: _, vs1, vs2, v1, hl, h, e => by simp only [bindAll] at e; cases e
  | _ :: _, [], vs1, vs2, v1, hl, h, e => by simp only [bindAll] at e; cases e
  | i :: is, d :: ds, vs1, vs2, v1, hl, h, e => by
    simp only [bindAll] at e ⊢
    refine bindAll_congr (by rw [List.length_set, List.length_set, hl]) (fun j hj => ?_) e
    by_cases hi : i = j
    · subst hi
      by_cases hlt : i < vs1.length
      · rw [List.getElem?_set_self hlt, List.getElem?_set_self (by rw [← hl]; exact hlt)]
      · rw [List.getElem?_eq_none (by rw [List.length_set]; omega), List.getElem?_eq_none (by rw [List.length_set]; omega)]
    · rw [List.getElem?_set_ne hi, List.getElem?_set_ne hi]
      exact h j fun z => by
        rcases List.mem_cons.mp z with z | z
        · exact hi z.symm
        · exact hj z
theorem bindTg_congr {tg : Tg} {d : D} {vs1 vs2 v1 : Vs} (hl : vs1.length = vs2.length) (h : ∀ j, j ∉ tgIx tg → vs1[j]? = vs2[j]?) (e : bindTg tg d vs1 = .ok v1) : bindTg tg d vs2 = .ok v1 := by
  cases tg with
  | nm i =>
    have := bindAll_congr (is := [i]) (ds := [d]) hl h (v1 := v1) (by simpa only [bindAll, bindTg] using e)
    simpa only [bindAll, bindTg] using this
  | tp is =>
    simp only [bindTg] at e ⊢
    obtain ⟨ds, h1, e⟩ := LP.R.bind_ok e
    rw [h1]
    exact bindAll_congr hl h e
theorem wipeV_ne {vs : Vs} {j : Nat} : ∀ {is : List Nat}, j ∉ is → (wipeV vs is)[j]? = vs[j]?
  | [], _ => rfl
  | i :: is, h => by
    rw [wipeV, List.getElem?_set_ne (fun z => h (by rw [z]; exact List.mem_cons_self ..)), wipeV_ne fun z => h (List.mem_cons_of_mem _ z)]
section
variable {K : Frg} {P W : List Addr} {nr : Nat} {ps : List Addr} {vs vs' : Vs} {cs cs1 : Cs} {σ σ2 : L2.St} {H H1 : Hp} {q : Bool}
/-- back to the slots that stood before -/
theorem Aft.back (R : RV K P W nr ps vs cs σ H) (a : Aft K P W nr ps vs' σ2 H q cs cs1 H1) (hl : ∀ k, Live nr vs k → Live nr vs' k) : Aft K P W nr ps vs σ H q cs cs1 H1 := by
  refine ⟨⟨R.len, fun i d e => ?_, R.var, fun k hk => a.rv.cell k (hl k hk), R.inj, R.nd, R.sub, a.rv.pr, a.rv.cl⟩, a.frm, a.qui, fun k p l e => a.chg k p (hl k l) e⟩
  obtain ⟨x, e1, h⟩ := R.val i d e
  exact ⟨x, e1, h.frm R.sub R.pr a.frm⟩
theorem noCel_ne {tg : Tg} {i k : Nat} (h : noCel tg vs = true) (e : vs[i]? = some (.c k)) : i ∉ tgIx tg := by
  cases tg with
  | nm j =>
    intro z
    have z : i = j := List.mem_singleton.mp z
    subst z
    simp [noCel, e, isCel] at h
  | tp is =>
    intro z
    simp only [noCel, List.all_eq_true] at h
    have := h i z
    simp [e, isCel] at this
theorem live_bind {tg : Tg} {d : D} (h : noCel tg vs = true) (e : bindTg tg d vs = .ok vs') {k : Nat} (l : Live nr vs k) : Live nr vs' k := by
  rcases l with l | ⟨i, l⟩
  · exact .inl l
  · exact .inr ⟨i, by rw [bindTg_ne e (noCel_ne h l)]; exact l⟩
end
/-- a comprehension's turn -/
def compF (G : Gx) (tg : Tg) (cond elt : E) (vs : Vs) (x : D) (cs : Cs) : R (Option D × Cs) := do
  let vs ← bindTg tg x vs
  let (c, cs) ← evE G cond vs cs
  let c ← tru c
  if c then do
    let (y, cs) ← evE G elt vs cs
    .ok (some y, cs)
  else .ok (none, cs)
theorem evE_comp {G : Gx} {tg : Tg} {src cond elt : E} {vs : Vs} {cs : Cs} : evE G (.comp tg src cond elt) vs cs = (do
    let (d, cs) ← evE G src vs cs
    let xs ← seqOf d
    .chk (noCel tg vs)
    let (ys, cs) ← compLoop (compF G tg cond elt vs) xs cs
    .ok (.list ys, cs)) := by
  rw [evE]
  rfl
theorem compLoop_cons {f : D → Cs → R (Option D × Cs)} {x : D} {xs : List D} {cs cs2 : Cs} {ys : List D} (h : compLoop f (x :: xs) cs = .ok (ys, cs2)) :
    ∃ o cs1 ys', f x cs = .ok (o, cs1) ∧ compLoop f xs cs1 = .ok (ys', cs2) ∧ ys = (match o with | some y => y :: ys' | none => ys') := by
  simp only [compLoop] at h
  obtain ⟨⟨o, cs1⟩, h1, h⟩ := LP.R.bind_ok h
  obtain ⟨⟨ys', cs3⟩, h2, h⟩ := LP.R.bind_ok h
  cases h
  exact ⟨o, cs1, ys', h1, h2, rfl⟩
section
variable {K : Frg} {nr : Nat} {G : Gx} {fr : Nat → Bool} {tg : Tg} {src cond elt : E}
theorem comp_weak (wf : (owned src || (quiet cond && quiet elt)) = true) (ow : owned elt = true) (σ : L2.St) (H : Hp) (Q : VK) (h : tE0 K nr G fr (.comp tg src cond elt) σ H Q) :
    tLc (tI K nr G src) (tG K tg) (tT K nr G cond) (tE K nr G fr elt) (tgIx tg) σ H Q := by
  obtain ⟨P, W, ps, vs, cs, d, cs', R, ev, q⟩ := h
  rw [evE_comp] at ev
  obtain ⟨⟨d0, cs1⟩, ev0, ev⟩ := LP.R.bind_ok ev
  obtain ⟨ds, ev1, ev⟩ := LP.R.bind_ok ev
  obtain ⟨_, ev2, ev⟩ := LP.R.bind_ok ev
  obtain ⟨⟨ys, cs2⟩, evL, ev⟩ := LP.R.bind_ok ev
  simp only at ev evL
  have ev2 := LP.R.chk_ok ev2
  have eqs : d = .list ys ∧ cs' = cs2 := by cases ev; exact ⟨rfl, rfl⟩
  obtain ⟨rfl, rfl⟩ := eqs
  refine ⟨P, W, ps, vs, cs, d0, cs1, ds, R, ev0, ev1, fun J H1 a1 hlen wkW wk0 D hD => ?_⟩
  have hDP : D ∉ P := a1.rv.pr.fresh hD
  have hDW : D ∉ W := fun z => hDP (a1.rv.sub _ z)
  have hsub : ∀ p ∈ W, p ∈ D :: P := fun p hp => List.mem_cons_of_mem _ (a1.rv.sub p hp)
  have hDs : ∀ p ∈ D :: P, p ∈ P ∨ H1 p = none := fun p hp => by
    rcases List.mem_cons.mp hp with e | hp
    · rw [e]; exact .inr hD
    · exact .inl hp
  have walk : ∀ i Hi, Frm W H1 Hi → ((quiet cond && quiet elt) = true → Frm [] H1 Hi) → (i = ds.length → J.stop i Hi) ∧ ∀ dd, ds[i]? = some dd → J.go i Hi ∧ ∀ x H', J.yld i Hi x H' → Frm [] Hi H' ∧ DR K H' (D :: P) dd x := fun i Hi f f0 => by
    rw [Bool.or_eq_true] at wf
    rcases wf with w | w
    · exact ⟨(wkW w).stop i Hi f, fun dd e => ⟨(wkW w).go i Hi dd f e, fun x H' y => (wkW w).yld i Hi dd x H' _ f hDs e y⟩⟩
    · exact ⟨wk0.stop i Hi (f0 w), fun dd e => ⟨wk0.go i Hi dd (f0 w) e, fun x H' y => wk0.yld i Hi dd x H' _ (f0 w) hDs e y⟩⟩
  -- the invariant
  let Iv : Nat → Hp → Prop := fun i Hi => ∃ csi accD acc rest, compLoop (compF G tg cond elt vs) (ds.drop i) csi = .ok (rest, cs') ∧ ys = accD ++ rest ∧ accD.length ≤ i ∧ Hi D = some (.lst acc) ∧ DRs K Hi (D :: P) accD acc ∧
    RV K (D :: P) W nr ps vs csi σ Hi ∧ Frm W H1 Hi ∧ ((quiet cond && quiet elt) = true → Frm [] H1 Hi) ∧
    ∀ k p, Live nr vs k → ps[k]? = some p → (Hi p = H1 p ∧ csi[k]? = cs1[k]?) ∨ ∃ c, csi[k]? = some c ∧ hasListAll c = false
  have inW : ∀ {k p}, Live nr vs k → ps[k]? = some p → p ∈ W := fun {k p} l e => by
    obtain ⟨p', c, xs, e1, _, e3, _⟩ := R.cell k l
    rw [e] at e1; cases e1; exact e3
  refine ⟨fun i m Hi => m = ds.length - i ∧ i ≤ ds.length ∧ Iv i Hi, ⟨ds.length, by simp, Nat.zero_le _, cs1, [], [], ys, evL, rfl, Nat.le_refl _, upd_same, DRs.nil, a1.rv.more hD trivial, Frm.new hD, fun _ => Frm.new hD, fun k p l e => ?_⟩, ?_⟩
  · have hne : p ≠ D := fun z => hDW (by rw [← z]; exact inW l e)
    exact .inl ⟨by rw [upd_ne hne], rfl⟩
  rintro i m Hi ⟨rfl, hi, csi, accD, acc, rest, evi, eys, hal, hD0, hdr, Ri, fi, qi, ci⟩
  by_cases hlt : i < ds.length
  · have hget : ds[i]? = some ds[i] := List.getElem?_eq_getElem hlt
    obtain ⟨go, yl⟩ := (walk i Hi fi qi).2 _ hget
    rw [List.drop_eq_getElem_cons hlt] at evi
    obtain ⟨o, csj, rest', ef, el, er⟩ := compLoop_cons evi
    unfold compF at ef
    obtain ⟨vs', eb, ef⟩ := LP.R.bind_ok ef
    obtain ⟨⟨dc, csc⟩, ec, ef⟩ := LP.R.bind_ok ef
    obtain ⟨b, et, ef⟩ := LP.R.bind_ok ef
    refine .inr ⟨go, fun H' => i + 1 ≤ ds.length ∧ Iv (i + 1) H', fun H' hN => ⟨ds.length - (i + 1), by omega, rfl, hN.1, hN.2⟩, fun x H' y => ?_⟩
    obtain ⟨fy, dry⟩ := yl x H' y
    have R' := Ri.keep fy
    have eb' : bindTg tg ds[i] (wipeV vs (tgIx tg)) = .ok vs' := bindTg_congr (by rw [wipeV_len]) (fun j hj => (wipeV_ne hj).symm) eb
    refine RV.bind (R'.wiped (tgIx tg)) dry eb' fun σ2 R2 hl2 hne2 => ⟨wipe_set hl2 hne2, D :: P, W, ps, vs', csi, dc, csc, b, R2, ec, et, fun H3 a3 => ?_⟩
    have lv : ∀ k, Live nr vs k → Live nr vs' k := fun k l => live_bind ev2 eb l
    have f1 : ∀ {Hx : Hp}, Frm W H' Hx → Frm W H1 Hx := fun f => (fi.trans (fy.wide (by simp))).trans f
    have at3 : H3 D = some (.lst acc) := a3.frm _ _ hDW (fy _ _ (by simp) hD0)
    have dr' : DRs K H' (D :: P) accD acc := hdr.frm (W := []) (by simp) Ri.pr fy
    cases b with
    | false =>
      simp only [Bool.false_eq_true, if_false] at ef ⊢
      cases ef
      have b3 := Aft.back R' a3 lv
      refine ⟨hlt, csj, accD, acc, rest', el, by rw [eys, er], by omega, at3, dr'.frm hsub R'.pr a3.frm, b3.rv, f1 a3.frm, fun z => ?_, fun k p l e => ?_⟩
      · rw [Bool.and_eq_true] at z
        exact ((qi (by rw [z.1, z.2]; rfl)).trans fy).trans (a3.qui z.1)
      · rcases b3.chg k p l e with ⟨m1, m2⟩ | m
        · rcases ci k p l e with ⟨m3, m4⟩ | ⟨c, m3, m4⟩
          · obtain ⟨p', c', xs', e1, e2, e3, e4, e5⟩ := Ri.cell k l
            rw [e] at e1; cases e1
            exact .inl ⟨by rw [m1, fy _ _ (by simp) e4, ← e4, m3], m2.trans m4⟩
          · exact .inr ⟨c, m2.trans m3, m4⟩
        · exact .inr m
    | true =>
      simp only [if_true] at ef ⊢
      obtain ⟨⟨dy, csy⟩, ey, ef⟩ := LP.R.bind_ok ef
      have ejs : o = some dy ∧ csj = csy := by cases ef; exact ⟨rfl, rfl⟩
      obtain ⟨rfl, rfl⟩ := ejs
      refine ⟨D :: P, W, ps, vs', csc, dy, csj, a3.rv, ey, fun y4 H4 p4 => ?_⟩
      have a34 := a3.trans p4.aft
      have b4 := Aft.back R' a34 lv
      have at4 : H4 D = some (.lst acc) := p4.aft.frm _ _ hDW at3
      have hz : acc.length < sizeLine := by
        rw [hdr.length]
        have : sizeLine = sz := sizeLine_eq
        omega
      have fD : Frm [D] H4 (upd H4 D (.lst (acc ++ [y4]))) := fun b u hb e => by rw [upd_ne (by simpa using hb)]; exact e
      have hs1 : ∀ p ∈ [D], p ∈ D :: P := fun p hp => by rw [List.mem_singleton.mp hp]; exact List.mem_cons_self ..
      have drA : DRs K H4 (D :: P) accD acc := dr'.frm hsub R'.pr a34.frm
      refine ⟨acc, at4, hz, hlt, csj, accD ++ [dy], acc ++ [y4], rest', el, by rw [eys, er]; simp, by simp; omega, upd_same, ?_, b4.rv.other (List.mem_cons_self ..) hDW fD (by rw [upd_same]; exact trivial), fun b u hb e => ?_, fun z b u _ e => ?_, fun k p l e => ?_⟩
      · exact DRs.append (drA.frm hs1 b4.rv.pr fD) (DRs.one ((p4.own ow).frm hs1 b4.rv.pr fD))
      · have hne : b ≠ D := fun z => by rw [z, hD] at e; cases e
        rw [upd_ne hne]
        exact f1 a34.frm b u hb e
      · have hne : b ≠ D := fun z => by rw [z, hD] at e; cases e
        rw [upd_ne hne]
        exact ((qi z).trans (fy.trans (a34.qui z))) b u (by simp) e
      · have hne : p ≠ D := fun z => hDW (by rw [← z]; exact inW l e)
        rw [upd_ne hne]
        rcases b4.chg k p l e with ⟨m1, m2⟩ | m
        · rcases ci k p l e with ⟨m3, m4⟩ | ⟨c, m3, m4⟩
          · obtain ⟨p', c', xs', e1, e2, e3, e4, e5⟩ := Ri.cell k l
            rw [e] at e1; cases e1
            exact .inl ⟨by rw [m1, fy _ _ (by simp) e4, ← e4, m3], m2.trans m4⟩
          · exact .inr ⟨c, m2.trans m3, m4⟩
        · exact .inr m
  · have e0 : i = ds.length := by omega
    subst e0
    rw [List.drop_length] at evi
    simp only [compLoop] at evi
    have ez : rest = [] ∧ csi = cs' := by cases evi; exact ⟨rfl, rfl⟩
    obtain ⟨rfl, rfl⟩ := ez
    rw [List.append_nil] at eys
    subst eys
    refine .inl ⟨(walk _ Hi fi qi).1 rfl, q _ _ ?_⟩
    have ai : Aft K P W nr ps vs σ H1 (quiet cond && quiet elt) cs1 csi Hi := ⟨Ri.less (fun p hp => List.mem_cons_of_mem _ hp) a1.rv.sub, fi, qi, ci⟩
    have dr : DR K Hi P (.list ys) (.ref D) := by
      simp only [DR]
      exact ⟨D, acc, rfl, .inl ⟨hD0, hDP⟩, hdr.less fun p hp => List.mem_cons_of_mem _ hp⟩
    refine ⟨(a1.trans ai).qu fun z => ?_, .inl dr, fun _ => dr, fun _ => ?_⟩
    · simp only [quiet, Bool.and_eq_true] at z ⊢
      exact ⟨z.1.1, z.1.2, z.2⟩
    · have nl : NewL K P H1 Hi (.list ys) (.ref D) := fun c ec => by cases ec; exact ⟨D, acc, rfl, hD, hD0, hdr⟩
      exact nl.later a1.frm R.sub a1.rv.pr
end
section
variable {X : L2.Cx} {nr : Nat} {G : Gx} {fr : Nat → Bool} {pos p p2 : Pos} {tg a b c : Expr} {e1 e2 e3 : E}
theorem pts0 : PTs X [] (tT X.K nr G (.lit (.bool true))) := ⟨fun pins s σ H Q I q => by
  obtain ⟨P, W, ps, vs, cs, d, cs', b, R, ev, tr, q⟩ := q
  simp only [evE] at ev
  cases ev
  cases tr
  exact pts_nil.run pins s σ H Q I (q H (Aft.refl R))⟩
end
end LP
set_option autoImplicit false
set_option linter.all false
set_option maxRecDepth 100000
set_option maxHeartbeats 1000000
/-! LPSt: statements. -/
namespace LP
open PySem PySem.Spec PyProof.Rows L2
/-- a def's state: S0 was protected at its entry, H0 the heap at its entry -/
structure RS (K : Frg) (nr : Nat) (S0 : List Addr) (H0 : Hp) (P W ps : List Addr) (vs : Vs) (cs : Cs) (σ : L2.St) (H : Hp) : Prop where
  rv : RV K P W nr ps vs cs σ H
  s0 : ∀ p ∈ S0, p ∈ P
  lc : ∀ (k : Nat) (p : Addr), nr ≤ k → ps[k]? = some p → p ∉ S0 ∧ H0 p = none
  nn : ∀ p, H p = none → H0 p = none
  wl : ∀ p ∈ W, p ∈ ps.take nr ∨ H0 p = none
  fr0 : Frm (ps.take nr) H0 H
  al : ∀ p ∈ ps, H p ≠ none
/-- how a statement moves on -/
structure Go (P W : List Addr) (H : Hp) (P' W' : List Addr) (H' : Hp) : Prop where
  frm : Frm W H H'
  up : ∀ p ∈ P', p ∈ P ∨ H p = none
  wup : ∀ p ∈ W', p ∈ W ∨ H p = none
theorem Go.refl (P W : List Addr) (H : Hp) : Go P W H P W H := ⟨Frm.refl _ _, fun p h => .inl h, fun p h => .inl h⟩
theorem Go.trans {P W P1 W1 P2 W2 : List Addr} {H H1 H2 : Hp} (hW : ∀ p ∈ W, p ∈ P) (a : Go P W H P1 W1 H1) (b : Go P1 W1 H1 P2 W2 H2) : Go P W H P2 W2 H2 := by
  have none0 : ∀ p, H1 p = none → p ∈ W ∨ H p = none := fun p h => by
    cases e : H p with
    | none => exact .inr rfl
    | some o =>
      by_cases hp : p ∈ W
      · exact .inl hp
      · rw [a.frm p o hp e] at h; cases h
  refine ⟨fun b' o hb e => b.frm b' o (fun z => ?_) (a.frm b' o hb e), fun p hp => ?_, fun p hp => ?_⟩
  · rcases a.wup b' z with z | z
    · exact hb z
    · rw [e] at z; cases z
  · rcases b.up p hp with z | z
    · exact a.up p z
    · rcases none0 p z with z | z
      · exact .inl (hW p z)
      · exact .inr z
  · rcases b.wup p hp with z | z
    · exact a.wup p z
    · exact none0 p z
section
variable {K : Frg} {nr : Nat} {S0 : List Addr} {H0 : Hp} {P W ps : List Addr} {vs : Vs} {cs cs1 : Cs} {σ : L2.St} {H H1 : Hp} {q : Bool}
theorem Aft.go (a : Aft K P W nr ps vs σ H q cs cs1 H1) : Go P W H P W H1 := ⟨a.frm, fun p h => .inl h, fun p h => .inl h⟩
theorem RS.frm (s : RS K nr S0 H0 P W ps vs cs σ H) (R : RV K P W nr ps vs cs1 σ H1) (f : Frm W H H1) : RS K nr S0 H0 P W ps vs cs1 σ H1 := by
  have some1 : ∀ p o, H p = some o → H1 p ≠ none := fun p o e z => by
    by_cases hp : p ∈ W
    · obtain ⟨o', e'⟩ := R.pr.some (R.sub p hp)
      rw [e'] at z; cases z
    · rw [f p o hp e] at z; cases z
  refine ⟨R, s.s0, s.lc, fun p h => ?_, s.wl, fun b o hb e => ?_, fun p hp z => ?_⟩
  · cases e : H p with
    | none => exact s.nn p e
    | some o => exact absurd h (some1 p o e)
  · refine f b o (fun z => ?_) (s.fr0 b o hb e)
    rcases s.wl b z with z | z
    · exact hb z
    · rw [e] at z; cases z
  · cases e : H p with
    | none => exact s.al p hp e
    | some o => exact some1 p o e z
theorem RS.aft (s : RS K nr S0 H0 P W ps vs cs σ H) (a : Aft K P W nr ps vs σ H q cs cs1 H1) : RS K nr S0 H0 P W ps vs cs1 σ H1 := s.frm a.rv a.frm
theorem RS.slots {vs' : Vs} {σ' : L2.St} (s : RS K nr S0 H0 P W ps vs cs σ H) (R : RV K P W nr ps vs' cs σ' H) : RS K nr S0 H0 P W ps vs' cs σ' H := ⟨R, s.s0, s.lc, s.nn, s.wl, s.fr0, s.al⟩
theorem RS.nrl (s : RS K nr S0 H0 P W ps vs cs σ H) : nr ≤ ps.length := by
  cases nr with
  | zero => exact Nat.zero_le _
  | succ n =>
    obtain ⟨p, _, _, e, _⟩ := s.rv.cell n (.inl (Nat.lt_succ_self n))
    exact (List.getElem?_eq_some_iff.mp e).1
/-- what a def hands back -/
theorem RS.out (s : RS K nr S0 H0 P W ps vs cs σ H) {d : D} {x : V} {nw : Bool} (dr : DR K H P d x) (new : nw = true → ∀ c, d = .list c → ∃ p xs, x = .ref p ∧ H0 p = none ∧ H p = some (.lst xs) ∧ DRs K H (p :: P) c xs) :
    PstF K S0 (ps.take nr) H0 nw (cs.take nr) d x H := by
  refine ⟨dr.less s.s0, fun k p e => ?_, by rw [List.length_take, List.length_take, s.rv.cl], s.fr0, fun z c ec => ?_⟩
  · have hk : k < nr := by
      have := (List.getElem?_eq_some_iff.mp e).1
      rw [List.length_take] at this; omega
    rw [List.getElem?_take, if_pos hk] at e
    obtain ⟨p', c, xs, e1, e2, e3, e4, e5⟩ := s.rv.cell k (.inl hk)
    rw [e] at e1; cases e1
    exact ⟨c, xs, by rw [List.getElem?_take, if_pos hk]; exact e2, e4, e5.less s.s0⟩
  · obtain ⟨p, xs, e1, e2, e3, e4⟩ := new z c ec
    exact ⟨p, xs, e1, e2, e3, e4.less fun q hq => by
      rcases List.mem_cons.mp hq with h | h
      · rw [h]; exact List.mem_cons_self ..
      · exact List.mem_cons_of_mem _ (s.s0 q h)⟩
end
/-- behind a statement -/
def NxS (K : Frg) (nr : Nat) (S0 : List Addr) (H0 : Hp) (P W ps : List Addr) (H : Hp) (vs' : Vs) (cs' : Cs) (σ' : L2.St) (H' : Hp) : Prop :=
  ∃ P' W' ps', RS K nr S0 H0 P' W' ps' vs' cs' σ' H' ∧ Go P W H P' W' H' ∧ ps'.take nr = ps.take nr
def Post (K : Frg) (nr : Nat) (nw : Bool) (S0 : List Addr) (H0 : Hp) (P W ps : List Addr) (H : Hp) (Dn : Ends) : Fl → Prop
  | .nx vs' cs' => ∀ σ' H', NxS K nr S0 H0 P W ps H vs' cs' σ' H' → Dn.nx σ' H'
  | .bk vs' cs' => ∀ σ' H', NxS K nr S0 H0 P W ps H vs' cs' σ' H' → Dn.bk σ' H'
  | .ct vs' cs' => ∀ σ' H', NxS K nr S0 H0 P W ps H vs' cs' σ' H' → Dn.ct σ' H'
  | .rt d cs' => ∀ x H', PstF K S0 (ps.take nr) H0 nw (cs'.take nr) d x H' → Dn.rt x H'
def tS (K : Frg) (nr : Nat) (G : Gx) (nw : Bool) (s : S) : TS := fun Dn σ H =>
  ∃ S0 H0 P W ps vs cs fl, RS K nr S0 H0 P W ps vs cs σ H ∧ evS G nr s vs cs = .ok fl ∧ Post K nr nw S0 H0 P W ps H Dn fl
section
variable {K : Frg} {nr : Nat} {nw : Bool} {S0 : List Addr} {H0 : Hp} {P W ps P' W' ps' : List Addr} {H H' : Hp} {Dn : Ends}
theorem NxS.step {vs : Vs} {cs : Cs} {σ : L2.St} {Hx : Hp} (hW : ∀ p ∈ W, p ∈ P) (g : Go P W H P' W' H') (t : ps'.take nr = ps.take nr) (h : NxS K nr S0 H0 P' W' ps' H' vs cs σ Hx) : NxS K nr S0 H0 P W ps H vs cs σ Hx := by
  obtain ⟨P2, W2, ps2, r, g2, t2⟩ := h
  exact ⟨P2, W2, ps2, r, g.trans hW g2, t2.trans t⟩
theorem Post.step {fl : Fl} (hW : ∀ p ∈ W, p ∈ P) (g : Go P W H P' W' H') (t : ps'.take nr = ps.take nr) (h : Post K nr nw S0 H0 P W ps H Dn fl) : Post K nr nw S0 H0 P' W' ps' H' Dn fl := by
  cases fl with
  | nx vs' cs' => exact fun σ' Hx n => h σ' Hx (n.step hW g t)
  | bk vs' cs' => exact fun σ' Hx n => h σ' Hx (n.step hW g t)
  | ct vs' cs' => exact fun σ' Hx n => h σ' Hx (n.step hW g t)
  | rt d cs' =>
    intro x Hx p
    rw [t] at p
    exact h x Hx p
end
section
variable {X : L2.Cx} {nr : Nat} {G : Gx} {fr : Nat → Bool} {nw : Bool} {pos p : Pos} {ex a b c : Expr} {e e1 e2 e3 : E} {st : Stmt} {sts : List Stmt} {s1 s2 : S}
theorem PS.weak {t t' : TS} (h : PS X st t) (w : ∀ Dn σ H, t' Dn σ H → t Dn σ H) : PS X st t' := ⟨fun pins s σ H Dn I q => h.run pins s σ H Dn I (w Dn σ H q)⟩
theorem PSs.weak {t t' : TS} (h : PSs X sts t) (w : ∀ Dn σ H, t' Dn σ H → t Dn σ H) : PSs X sts t' := ⟨fun pins s σ H Dn I q => h.run pins s σ H Dn I (w Dn σ H q)⟩
theorem s_nil : PSs X [] (tS X.K nr G nw .nop) := PSs.weak pss_nil fun Dn σ H q => by
  obtain ⟨S0, H0, P, W, ps, vs, cs, fl, r, ev, q⟩ := q
  simp only [evS] at ev
  cases ev
  exact q σ H ⟨P, W, ps, r, Go.refl _ _ _, rfl⟩
theorem seq_weak (Dn : Ends) (σ : L2.St) (H : Hp) (q : tS X.K nr G nw (.seq s1 s2) Dn σ H) : tSeq (tS X.K nr G nw s1) (tS X.K nr G nw s2) Dn σ H := by
  obtain ⟨S0, H0, P, W, ps, vs, cs, fl, r, ev, q⟩ := q
  simp only [evS] at ev
  obtain ⟨fa, ev1, ev⟩ := LP.R.bind_ok ev
  refine ⟨S0, H0, P, W, ps, vs, cs, fa, r, ev1, ?_⟩
  cases fa with
  | nx vs1 cs1 =>
    intro σ' H' n
    obtain ⟨P', W', ps', r', g, t⟩ := n
    exact ⟨S0, H0, P', W', ps', vs1, cs1, fl, r', ev, q.step r.rv.sub g t⟩
  | rt d cs' => cases ev; exact q
  | bk vs' cs' => cases ev; exact q
  | ct vs' cs' => cases ev; exact q
theorem s_cons (h1 : PS X st (tS X.K nr G nw s1)) (h2 : PSs X sts (tS X.K nr G nw s2)) : PSs X (st :: sts) (tS X.K nr G nw (.seq s1 s2)) := PSs.weak (pss_cons h1 h2) seq_weak
theorem s_one (h1 : PS X st (tS X.K nr G nw s1)) : PSs X [st] (tS X.K nr G nw s1) := pss_one h1
/-- a statement that does nothing ahead -/
theorem s_skip (h1 : PS X st tNext) (h2 : PSs X sts (tS X.K nr G nw s2)) : PSs X (st :: sts) (tS X.K nr G nw s2) := PSs.weak (pss_cons h1 h2) fun Dn σ H q => q
/-- the ghost: a cell becomes a value -/
theorem RV.frz {K : Frg} {P W : List Addr} {ps : List Addr} {vs : Vs} {cs : Cs} {σ : L2.St} {H : Hp} {i k : Nat} {c : List D} {p : Addr} (R : RV K P W nr ps vs cs σ H) (hv : vs[i]? = some (.c k)) (hk : nr ≤ k) (hc : cs[k]? = some c) (hp : ps[k]? = some p) :
    RV K (P.filter fun a => decide (a ≠ p)) (W.filter fun a => decide (a ≠ p)) nr ps (vs.set i (.v (.list c))) cs σ H := by
  have sub : ∀ q ∈ P.filter (fun a => decide (a ≠ p)), q ∈ P := fun q hq => (List.mem_filter.mp hq).1
  obtain ⟨p', f1, f2⟩ := R.var i k hv
  rw [hp] at f1; cases f1
  obtain ⟨p', c', xs, g1, g2, g3, g4, g5⟩ := R.cell k (.inr ⟨i, hv⟩)
  rw [hp] at g1; cases g1
  rw [hc] at g2; cases g2
  have hil : i < vs.length := (List.getElem?_eq_some_iff.mp hv).1
  have oth : ∀ {j z}, (vs.set i (.v (.list c)))[j]? = some z → (j = i ∧ z = .v (.list c)) ∨ (j ≠ i ∧ vs[j]? = some z) := fun {j z} e => by
    by_cases hj : j = i
    · subst hj
      rw [List.getElem?_set_self hil] at e; cases e
      exact .inl ⟨rfl, rfl⟩
    · rw [List.getElem?_set_ne (Ne.symm hj)] at e
      exact .inr ⟨hj, e⟩
  refine ⟨by rw [List.length_set]; exact R.len, fun j d e => ?_, fun j k' e => ?_, fun k' hk' => ?_, fun j1 j2 k' e1 e2 => ?_, R.nd, fun q hq => ?_, fun q hq => R.pr q (sub q hq), R.cl⟩
  · rcases oth e with ⟨rfl, ez⟩ | ⟨hj, e⟩
    · cases ez
      refine ⟨.ref p, f2, ?_⟩
      simp only [DR]
      exact ⟨p, xs, rfl, .inl ⟨g4, fun z => by simpa using (List.mem_filter.mp z).2⟩, g5.less sub⟩
    · obtain ⟨x, e1, h⟩ := R.val j d e
      exact ⟨x, e1, h.less sub⟩
  · rcases oth e with ⟨_, ez⟩ | ⟨hj, e⟩
    · cases ez
    · exact R.var j k' e
  · have hne : k' ≠ k := fun z => by
      subst z
      rcases hk' with h | ⟨j, h⟩
      · omega
      · rcases oth h with ⟨_, ez⟩ | ⟨hj, h⟩
        · cases ez
        · exact hj (R.inj j i k' h hv)
    obtain ⟨q, c', ys, e1, e2, e3, e4, e5⟩ := R.cell k' (by
      rcases hk' with h | ⟨j, h⟩
      · exact .inl h
      · rcases oth h with ⟨_, ez⟩ | ⟨hj, h⟩
        · cases ez
        · exact .inr ⟨j, h⟩)
    have hqp : q ≠ p := fun z => hne (by
      rw [z] at e1
      obtain ⟨h1, e1⟩ := List.getElem?_eq_some_iff.mp e1
      obtain ⟨h2, e2⟩ := List.getElem?_eq_some_iff.mp hp
      exact (List.getElem_inj R.nd).mp (e1.trans e2.symm))
    exact ⟨q, c', ys, e1, e2, List.mem_filter.mpr ⟨e3, by simpa using hqp⟩, e4, e5.less sub⟩
  · rcases oth e1 with ⟨_, ez⟩ | ⟨h1, e1⟩
    · cases ez
    · rcases oth e2 with ⟨_, ez⟩ | ⟨h2, e2⟩
      · cases ez
      · exact R.inj j1 j2 k' e1 e2
  · obtain ⟨h1, h2⟩ := List.mem_filter.mp hq
    exact List.mem_filter.mpr ⟨R.sub q h1, h2⟩
theorem s_frz {i : Nat} (h : PSs X sts (tS X.K nr G nw s2)) : PSs X sts (tS X.K nr G nw (.seq (.frz i) s2)) := PSs.weak h fun Dn σ H q => by
  obtain ⟨S0, H0, P, W, ps, vs, cs, fl, r, ev, q⟩ := q
  simp only [evS] at ev
  obtain ⟨fa, ev1, ev⟩ := LP.R.bind_ok ev
  obtain ⟨k, e1, ev1⟩ := LP.R.bind_ok ev1
  obtain ⟨_, e2, ev1⟩ := LP.R.bind_ok ev1
  obtain ⟨c, e3, ev1⟩ := LP.R.bind_ok ev1
  have e2 := of_decide_eq_true (LP.R.chk_ok e2)
  have e3 := LP.R.ofO_ok e3
  cases ev1
  have hv : vs[i]? = some (.c k) := by
    unfold getC at e1
    split at e1
    · rename_i hv'; cases e1; exact hv'
    · cases e1
  obtain ⟨p, f1, f2⟩ := r.rv.var i k hv
  have rv := r.rv.frz hv e2 e3 f1
  have sub : ∀ q ∈ P.filter (fun a => decide (a ≠ p)), q ∈ P := fun q hq => (List.mem_filter.mp hq).1
  refine ⟨S0, H0, _, _, ps, _, cs, fl, ⟨rv, fun z hz => ?_, r.lc, r.nn, fun z hz => r.wl z (List.mem_filter.mp hz).1, r.fr0, r.al⟩, ev, ?_⟩
  · refine List.mem_filter.mpr ⟨r.s0 z hz, ?_⟩
    have : z ≠ p := fun e => (r.lc k p e2 f1).1 (e ▸ hz)
    simpa using this
  · exact q.step (P' := P.filter fun a => decide (a ≠ p)) (W' := W.filter fun a => decide (a ≠ p)) (H' := H) r.rv.sub ⟨Frm.refl _ _, fun z hz => .inl (sub z hz), fun z hz => .inl (List.mem_filter.mp hz).1⟩ rfl
theorem s_ret (h : PE X ex (tE X.K nr G fr e)) (ow : owned e = true) (hn : nw = true → fresh fr e = true) : PS X (.Return (some ex) pos) (tS X.K nr G nw (.ret e)) := PS.weak (ps_ret h) fun Dn σ H q => by
  obtain ⟨S0, H0, P, W, ps, vs, cs, fl, r, ev, q⟩ := q
  simp only [evS] at ev
  obtain ⟨⟨d, cs1⟩, ev1, ev⟩ := LP.R.bind_ok ev
  cases ev
  refine ⟨P, W, ps, vs, cs, d, cs1, r.rv, ev1, fun x H1 p1 => q x H1 ?_⟩
  refine (r.aft p1.aft).out (p1.own ow) fun z c ec => ?_
  obtain ⟨p0, xs, f1, f2, f3, f4⟩ := p1.new (hn z) c ec
  exact ⟨p0, xs, f1, r.nn _ f2, f3, f4⟩
theorem s_retc {x : Str} {i : Nat} (h : PE X (.Name x p) (tVar i)) : PS X (.Return (some (.Name x p)) pos) (tS X.K nr G nw (.retc i)) := PS.weak (ps_ret h) fun Dn σ H q => by
  obtain ⟨S0, H0, P, W, ps, vs, cs, fl, r, ev, q⟩ := q
  simp only [evS] at ev
  obtain ⟨k, e1, ev⟩ := LP.R.bind_ok ev
  obtain ⟨_, e2, ev⟩ := LP.R.bind_ok ev
  obtain ⟨c, e3, ev⟩ := LP.R.bind_ok ev
  have e2 := of_decide_eq_true (LP.R.chk_ok e2)
  have e3 := LP.R.ofO_ok e3
  cases ev
  have hv : vs[i]? = some (.c k) := by
    unfold getC at e1
    split at e1
    · rename_i hv'; cases e1; exact hv'
    · cases e1
  obtain ⟨p0, f1, f2⟩ := r.rv.var i k hv
  obtain ⟨p', c', xs, g1, g2, g3, g4, g5⟩ := r.rv.cell k (.inr ⟨i, hv⟩)
  rw [f1] at g1; cases g1
  rw [e3] at g2; cases g2
  obtain ⟨l1, l2⟩ := r.lc k p0 e2 f1
  refine ⟨_, f2, q _ _ ?_⟩
  -- as if it were protected no more
  have rv := r.rv.frz hv e2 e3 f1
  have sub : ∀ q ∈ P.filter (fun a => decide (a ≠ p0)), q ∈ P := fun q hq => (List.mem_filter.mp hq).1
  have r' : RS X.K nr S0 H0 (P.filter fun a => decide (a ≠ p0)) (W.filter fun a => decide (a ≠ p0)) ps _ cs σ H := ⟨rv, fun z hz => by
    refine List.mem_filter.mpr ⟨r.s0 z hz, ?_⟩
    have : z ≠ p0 := fun e => l1 (e ▸ hz)
    simpa using this, r.lc, r.nn, fun z hz => r.wl z (List.mem_filter.mp hz).1, r.fr0, r.al⟩
  refine r'.out ?_ fun _ c' ec => ?_
  · simp only [DR]
    exact ⟨p0, xs, rfl, .inl ⟨g4, fun z => by simpa using (List.mem_filter.mp z).2⟩, g5.less sub⟩
  · cases ec
    exact ⟨p0, xs, rfl, l2, g4, g5.less fun z hz => by
      rcases List.mem_cons.mp hz with h | h
      · rw [h]; exact r.rv.sub _ g3
      · exact sub z h⟩
theorem s_retN : PS X (.Return none pos) (tS X.K nr G nw .retN) := PS.weak ps_retN fun Dn σ H q => by
  obtain ⟨S0, H0, P, W, ps, vs, cs, fl, r, ev, q⟩ := q
  simp only [evS] at ev
  cases ev
  exact q _ _ (r.out (by simp only [DR]) fun _ c ec => by cases ec)
theorem asg_weak {i : Nat} (ow : owned e = true) (Dn : Ends) (σ : L2.St) (H : Hp) (q : tS X.K nr G nw (.asg i e) Dn σ H) : tAsg (tE0 X.K nr G fr e) (gName i) Dn σ H := by
  obtain ⟨S0, H0, P, W, ps, vs, cs, fl, r, ev, q⟩ := q
  simp only [evS] at ev
  obtain ⟨⟨d, cs1⟩, ev1, ev⟩ := LP.R.bind_ok ev
  cases ev
  refine ⟨P, W, ps, vs, cs, d, cs1, r.rv, ev1, fun x H1 p1 => q _ _ ⟨P, W, ps, ?_, p1.aft.go, rfl⟩⟩
  exact (r.aft p1.aft).slots (p1.aft.rv.set (p1.own ow))
/-- a new cell -/
theorem RV.cel {K : Frg} {P W : List Addr} {ps : List Addr} {vs : Vs} {cs : Cs} {σ : L2.St} {H : Hp} {i : Nat} {c : List D} {p : Addr} {xs : List V} (R : RV K (p :: P) W nr ps vs cs σ H) (hnr : nr ≤ ps.length) (hps : p ∉ ps) (hp : H p = some (.lst xs)) (hd : DRs K H (p :: P) c xs) :
    RV K (p :: P) (p :: W) nr (ps ++ [p]) (vs.set i (.c cs.length)) (cs ++ [c]) (σ.set i (some (.ref p))) H := by
  have old : ∀ {k q}, ps[k]? = some q → (ps ++ [p])[k]? = some q := fun {k q} e => by rw [List.getElem?_append_left (List.getElem?_eq_some_iff.mp e).1]; exact e
  have oldc : ∀ {k q}, cs[k]? = some q → (cs ++ [c])[k]? = some q := fun {k q} e => by rw [List.getElem?_append_left (List.getElem?_eq_some_iff.mp e).1]; exact e
  have newp : (ps ++ [p])[cs.length]? = some p := by rw [← R.cl]; simp
  have newc : (cs ++ [c])[cs.length]? = some c := by simp
  have oth : ∀ {j z}, (vs.set i (.c cs.length))[j]? = some z → (j = i ∧ z = .c cs.length ∧ i < vs.length) ∨ (j ≠ i ∧ vs[j]? = some z) := fun {j z} e => by
    by_cases hj : j = i
    · subst hj
      by_cases hl : j < vs.length
      · rw [List.getElem?_set_self hl] at e; cases e
        exact .inl ⟨rfl, rfl, hl⟩
      · rw [List.getElem?_eq_none (by rw [List.length_set]; omega)] at e; cases e
    · rw [List.getElem?_set_ne (Ne.symm hj)] at e
      exact .inr ⟨hj, e⟩
  have klt : ∀ {j k : Nat}, vs[j]? = some (.c k) → k < cs.length := fun {j k} e => by
    obtain ⟨q, f1, _⟩ := R.var j k e
    rw [← R.cl]; exact (List.getElem?_eq_some_iff.mp f1).1
  refine ⟨by rw [List.length_set, List.length_set]; exact R.len, fun j d e => ?_, fun j k e => ?_, fun k hk => ?_, fun j1 j2 k a b => ?_, ?_, fun q hq => ?_, R.pr, by simp [R.cl]⟩
  · rcases oth e with ⟨_, ez, _⟩ | ⟨hj, e⟩
    · cases ez
    · obtain ⟨x, e1, h⟩ := R.val j d e
      exact ⟨x, by rw [List.getElem?_set_ne (Ne.symm hj)]; exact e1, h⟩
  · rcases oth e with ⟨rfl, ez, hl⟩ | ⟨hj, e⟩
    · cases ez
      exact ⟨p, newp, List.getElem?_set_self (by rw [← R.len]; exact hl)⟩
    · obtain ⟨q, e1, e2⟩ := R.var j k e
      exact ⟨q, old e1, by rw [List.getElem?_set_ne (Ne.symm hj)]; exact e2⟩
  · by_cases hkc : k = cs.length
    · subst hkc
      exact ⟨p, c, xs, newp, newc, List.mem_cons_self .., hp, hd⟩
    · obtain ⟨q, c', ys, e1, e2, e3, e4, e5⟩ := R.cell k (by
        rcases hk with h | ⟨j, h⟩
        · exact .inl h
        · rcases oth h with ⟨_, ez, _⟩ | ⟨_, h⟩
          · cases ez; exact absurd rfl hkc
          · exact .inr ⟨j, h⟩)
      exact ⟨q, c', ys, old e1, oldc e2, List.mem_cons_of_mem _ e3, e4, e5⟩
  · rcases oth a with ⟨h1, ez, _⟩ | ⟨h1, a⟩
    · cases ez
      rcases oth b with ⟨h2, _, _⟩ | ⟨h2, b⟩
      · rw [h1, h2]
      · exact absurd (klt b) (Nat.lt_irrefl _)
    · rcases oth b with ⟨h2, ez, _⟩ | ⟨h2, b⟩
      · cases ez
        exact absurd (klt a) (Nat.lt_irrefl _)
      · exact R.inj j1 j2 k a b
  · exact List.nodup_append.mpr ⟨R.nd, by simp, fun x hx y hy => by rw [List.mem_singleton.mp hy]; exact fun z => hps (z ▸ hx)⟩
  · rcases List.mem_cons.mp hq with h | h
    · rw [h]; exact List.mem_cons_self ..
    · exact R.sub q h
theorem cel_weak {i : Nat} (hf : fresh fr e = true) (Dn : Ends) (σ : L2.St) (H : Hp) (q : tS X.K nr G nw (.cel i e) Dn σ H) : tAsg (tE0 X.K nr G fr e) (gName i) Dn σ H := by
  obtain ⟨S0, H0, P, W, ps, vs, cs, fl, r, ev, q⟩ := q
  simp only [evS] at ev
  obtain ⟨⟨d, cs1⟩, ev1, ev⟩ := LP.R.bind_ok ev
  cases d with
  | list c =>
    cases ev
    refine ⟨P, W, ps, vs, cs, _, cs1, r.rv, ev1, fun x H1 p1 => ?_⟩
    obtain ⟨p0, xs, rfl, hn, hp0, hd0⟩ := p1.new hf c rfl
    have r1 := r.aft p1.aft
    have R1 := r.rv.up p1.aft hn (by rw [hp0]; exact trivial)
    have hps : p0 ∉ ps := fun z => r.al _ z hn
    have hP : p0 ∉ P := r.rv.pr.fresh hn
    refine q _ _ ⟨p0 :: P, p0 :: W, ps ++ [p0], ⟨R1.cel r.nrl hps hp0 hd0, fun z hz => List.mem_cons_of_mem _ (r.s0 z hz), fun k z hk e => ?_, r1.nn, fun z hz => ?_, ?_, fun z hz => ?_⟩, ⟨p1.aft.frm, fun z hz => ?_, fun z hz => ?_⟩, ?_⟩
    · by_cases hkl : k < ps.length
      · rw [List.getElem?_append_left hkl] at e
        exact r.lc k z hk e
      · have : z = p0 := by
          rw [List.getElem?_append_right (by omega)] at e
          have e := List.mem_of_getElem? e
          simpa using e
        subst this
        exact ⟨fun y => hP (r.s0 _ y), r.nn _ hn⟩
    · rcases List.mem_cons.mp hz with h | h
      · rw [h]; exact .inr (r.nn _ hn)
      · rw [List.take_append_of_le_length r.nrl]; exact r.wl z h
    · rw [List.take_append_of_le_length r.nrl]; exact r1.fr0
    · rcases List.mem_append.mp hz with h | h
      · exact r1.al z h
      · rw [List.mem_singleton.mp h, hp0]; exact fun z => by cases z
    · rcases List.mem_cons.mp hz with h | h
      · rw [h]; exact .inr hn
      · exact .inl h
    · rcases List.mem_cons.mp hz with h | h
      · rw [h]; exact .inr hn
      · exact .inl h
    · rw [List.take_append_of_le_length r.nrl]
  | _ => cases ev
end
end LP
set_option autoImplicit false
set_option linter.all false
set_option maxRecDepth 100000
set_option maxHeartbeats 1000000
/-! LPSt2: more statements. -/
namespace LP
open PySem PySem.Spec PyProof.Rows L2
section
variable {X : L2.Cx} {nr : Nat} {G : Gx} {fr : Nat → Bool} {nw : Bool} {pos p : Pos} {ex a b c : Expr} {e e1 e2 e3 r : E} {st : Stmt} {sts sts1 sts2 : List Stmt} {s1 s2 : S}
theorem bind_weak {is : List Nat} (ow : owned e = true) (Dn : Ends) (σ : L2.St) (H : Hp) (q : tS X.K nr G nw (.unp is e) Dn σ H) : tAsg (tE X.K nr G fr e) (tG X.K (.tp is)) Dn σ H := by
  obtain ⟨S0, H0, P, W, ps, vs, cs, fl, r, ev, q⟩ := q
  simp only [evS] at ev
  obtain ⟨⟨d, cs1⟩, ev1, ev⟩ := LP.R.bind_ok ev
  obtain ⟨ds, ev2, ev⟩ := LP.R.bind_ok ev
  obtain ⟨vs', ev3, ev⟩ := LP.R.bind_ok ev
  cases ev
  refine ⟨P, W, ps, vs, cs, d, cs1, r.rv, ev1, fun x H1 p1 => ?_⟩
  refine RV.bind p1.aft.rv (p1.own ow) (vs' := vs') (by simp only [bindTg]; rw [ev2]; exact ev3) fun σ2 R2 _ _ => q _ _ ⟨P, W, ps, (r.aft p1.aft).slots R2, p1.aft.go, rfl⟩
theorem par_weak {is : List Nat} (hl : lends r = false) (hr : isRow r = true) (Dn : Ends) (σ : L2.St) (H : Hp) (q : tS X.K nr G nw (.par is [] r) Dn σ H) : tAsg (tE X.K nr G fr (.tup r)) (tG X.K (.tp is)) Dn σ H := by
  obtain ⟨S0, H0, P, W, ps, vs, cs, fl, rs, ev, q⟩ := q
  simp only [evS] at ev
  obtain ⟨⟨t, cs1⟩, ev1, ev⟩ := LP.R.bind_ok ev
  cases t with
  | tuple ds =>
    simp only [ownAll] at ev
    obtain ⟨vs', ev3, ev⟩ := LP.R.bind_ok ev
    obtain ⟨⟨v2, c2⟩, ev4, ev⟩ := LP.R.bind_ok ev
    cases ev4
    cases ev
    refine ⟨P, W, ps, vs, cs, .tuple ds, cs1, rs.rv, by simp only [evE]; exact ev1, fun x H1 p1 => ?_⟩
    refine RV.bind p1.aft.rv (p1.own rfl) (vs' := vs') (by simp only [bindTg, itemsOf]; exact ev3) fun σ2 R2 _ _ => q _ _ ⟨P, W, ps, (rs.aft p1.aft).slots R2, p1.aft.go, rfl⟩
  | _ => cases ev
theorem par2_weak {i j : Nat} (hl : lends r = false) (hr : isRow r = true) (hn : rowLen r = 2) (Dn : Ends) (σ : L2.St) (H : Hp) (q : tS X.K nr G nw (.par [i, j] [] r) Dn σ H) : tPar i j (tR X.K nr G r) Dn σ H := by
  obtain ⟨S0, H0, P, W, ps, vs, cs, fl, rs, ev, q⟩ := q
  simp only [evS] at ev
  obtain ⟨⟨t, cs1⟩, ev1, ev⟩ := LP.R.bind_ok ev
  cases t with
  | tuple ds =>
    simp only [ownAll] at ev
    obtain ⟨vs', ev3, ev⟩ := LP.R.bind_ok ev
    obtain ⟨⟨v2, c2⟩, ev4, ev⟩ := LP.R.bind_ok ev
    cases ev4
    cases ev
    refine ⟨P, W, ps, vs, cs, ds, cs1, rs.rv, ev1, fun xs H1 p1 => ?_⟩
    have dr := p1.own hl
    have hl2 : xs.length = 2 := by rw [dr.length, row_len hr ev1, hn]
    match xs, hl2 with
    | [v, w], _ => exact ⟨v, w, rfl, q _ _ ⟨P, W, ps, (rs.aft p1.aft).slots (RV.setAll p1.aft.rv dr ev3), p1.aft.go, rfl⟩⟩
  | _ => cases ev
theorem par3_weak {i j l : Nat} (hl : lends r = false) (hr : isRow r = true) (hn : rowLen r = 3) (Dn : Ends) (σ : L2.St) (H : Hp) (q : tS X.K nr G nw (.par [i, j, l] [] r) Dn σ H) : tPar3 i j l (tR X.K nr G r) Dn σ H := by
  obtain ⟨S0, H0, P, W, ps, vs, cs, fl, rs, ev, q⟩ := q
  simp only [evS] at ev
  obtain ⟨⟨t, cs1⟩, ev1, ev⟩ := LP.R.bind_ok ev
  cases t with
  | tuple ds =>
    simp only [ownAll] at ev
    obtain ⟨vs', ev3, ev⟩ := LP.R.bind_ok ev
    obtain ⟨⟨v2, c2⟩, ev4, ev⟩ := LP.R.bind_ok ev
    cases ev4
    cases ev
    refine ⟨P, W, ps, vs, cs, ds, cs1, rs.rv, ev1, fun xs H1 p1 => ?_⟩
    have dr := p1.own hl
    have hl2 : xs.length = 3 := by rw [dr.length, row_len hr ev1, hn]
    match xs, hl2 with
    | [u, v, w], _ => exact ⟨u, v, w, rfl, q _ _ ⟨P, W, ps, (rs.aft p1.aft).slots (RV.setAll p1.aft.rv dr ev3), p1.aft.go, rfl⟩⟩
  | _ => cases ev
theorem s_if (hc : PT X c (tT X.K nr G e)) (ha : PSs X sts1 (tS X.K nr G nw s1)) (hb : PSs X sts2 (tS X.K nr G nw s2)) : PS X (.If c sts1 sts2 pos) (tS X.K nr G nw (.ifs e s1 s2)) := PS.weak (ps_if hc ha hb) fun Dn σ H q => by
  obtain ⟨S0, H0, P, W, ps, vs, cs, fl, rs, ev, q⟩ := q
  simp only [evS] at ev
  obtain ⟨⟨d, cs1⟩, ev1, ev⟩ := LP.R.bind_ok ev
  obtain ⟨k, tr, ev⟩ := LP.R.bind_ok ev
  refine ⟨P, W, ps, vs, cs, d, cs1, k, rs.rv, ev1, tr, fun H1 a1 => ?_⟩
  cases k with
  | true =>
    rw [if_pos rfl]
    simp only [if_true] at ev
    exact ⟨S0, H0, P, W, ps, vs, cs1, fl, rs.aft a1, ev, q.step rs.rv.sub a1.go rfl⟩
  | false =>
    rw [if_neg Bool.false_ne_true]
    simp only [Bool.false_eq_true, if_false] at ev
    exact ⟨S0, H0, P, W, ps, vs, cs1, fl, rs.aft a1, ev, q.step rs.rv.sub a1.go rfl⟩
theorem s_expr (h : PE X ex (tE X.K nr G fr e)) (hs : swapsWith ex none pos.line X.env = pure false) : PS X (.Expr ex pos) (tS X.K nr G nw (.expr e)) := PS.weak (ps_expr h hs) fun Dn σ H q => by
  obtain ⟨S0, H0, P, W, ps, vs, cs, fl, rs, ev, q⟩ := q
  simp only [evS] at ev
  obtain ⟨⟨d, cs1⟩, ev1, ev⟩ := LP.R.bind_ok ev
  cases ev
  exact ⟨P, W, ps, vs, cs, d, cs1, rs.rv, ev1, fun x H1 p1 => q _ _ ⟨P, W, ps, rs.aft p1.aft, p1.aft.go, rfl⟩⟩
theorem s_brk : PS X (.Break pos) (tS X.K nr G nw .brk) := PS.weak ps_break fun Dn σ H q => by
  obtain ⟨S0, H0, P, W, ps, vs, cs, fl, r, ev, q⟩ := q
  simp only [evS] at ev
  cases ev
  exact q σ H ⟨P, W, ps, r, Go.refl _ _ _, rfl⟩
theorem s_cont : PS X (.Continue pos) (tS X.K nr G nw .cont) := PS.weak ps_continue fun Dn σ H q => by
  obtain ⟨S0, H0, P, W, ps, vs, cs, fl, r, ev, q⟩ := q
  simp only [evS] at ev
  cases ev
  exact q σ H ⟨P, W, ps, r, Go.refl _ _ _, rfl⟩
theorem getC_ok {vs : Vs} {i k : Nat} (e1 : getC vs i = .ok k) : vs[i]? = some (.c k) := by
  unfold getC at e1
  split at e1
  · rename_i hv'; cases e1; exact hv'
  · cases e1
/-- a cell written by a statement -/
theorem RS.put {K : Frg} {S0 : List Addr} {H0 : Hp} {P W ps : List Addr} {vs : Vs} {cs : Cs} {σ : L2.St} {H : Hp} {i k : Nat} {p0 : Addr} {c : List D} {xs : List V} (s : RS K nr S0 H0 P W ps vs cs σ H) (hv : vs[i]? = some (.c k)) (hp : ps[k]? = some p0) (hw : p0 ∈ W) (hd : DRs K H P c xs) :
    RS K nr S0 H0 P W ps vs (cs.set k c) σ (upd H p0 (.lst xs)) ∧ Go P W H P W (upd H p0 (.lst xs)) := by
  have f : Frm [p0] H (upd H p0 (.lst xs)) := fun b o hb e => by rw [upd_ne (by simpa using hb)]; exact e
  have fW : Frm W H (upd H p0 (.lst xs)) := f.wide fun q hq => by rw [List.mem_singleton.mp hq]; exact hw
  have hP := s.rv.sub _ hw
  have hs1 : ∀ q ∈ [p0], q ∈ P := fun q hq => by rw [List.mem_singleton.mp hq]; exact hP
  exact ⟨s.frm (s.rv.write hp hP f upd_same (hd.frm hs1 s.rv.pr f)) fW, ⟨fW, fun q h => .inl h, fun q h => .inl h⟩⟩
/-- x.append(e) -/
theorem s_app {x : Str} {i : Nat} {px ap cp : Pos} (hv : PE X (.Name x px) (tVar i)) (h : PE X ex (tE X.K nr G fr e)) (ow : owned e = true) (hs : noStar ex = true) (hline : (ap.endLine == cp.line) = true) :
    PS X (.Expr (.Call (.Attribute (.Name x px) "append" ap) [ex] [] cp) pos) (tS X.K nr G nw (.app i e)) :=
  PS.weak (ps_expr (pe_bm PySem.F.plainAttrs_list PySem.F.slot_list_append PySem.F.type_list_append mt_append hv (pa_cons h pa_nil (star_cons hs)) rfl (by rw [star_cons hs]; rfl) hline (star_cons hs) rfl) rfl) fun Dn σ H q => by
    obtain ⟨S0, H0, P, W, ps, vs, cs, fl, rs, ev, q⟩ := q
    simp only [evS] at ev
    obtain ⟨⟨d, cs1⟩, ev1, ev⟩ := LP.R.bind_ok ev
    obtain ⟨k, ek, ev⟩ := LP.R.bind_ok ev
    obtain ⟨c, ec, ev⟩ := LP.R.bind_ok ev
    obtain ⟨_, eh, ev⟩ := LP.R.bind_ok ev
    cases ev
    have ek := getC_ok ek
    have ec := LP.R.ofO_ok ec
    have eh := of_decide_eq_true (LP.R.chk_ok eh)
    obtain ⟨p0, f1, f2⟩ := rs.rv.var i k ek
    obtain ⟨p', c', xs0, g1, g2, g3, g4, g5⟩ := rs.rv.cell k (.inr ⟨i, ek⟩)
    rw [f1] at g1; cases g1
    refine ⟨.ref p0, f2, .inl ⟨rfl, _, .inl (.inl g4)⟩, P, W, ps, vs, cs, d, cs1, rs.rv, ev1, fun y H1 p1 => ?_⟩
    have r1 := rs.aft p1.aft
    obtain ⟨p', c2, xs, g1, g2', g3', g4', g5'⟩ := r1.rv.cell k (.inr ⟨i, ek⟩)
    rw [f1] at g1; cases g1
    rw [ec] at g2'; cases g2'
    have pt := r1.put (c := c ++ [d]) (xs := xs ++ [y]) ek f1 g3 (DRs.append g5' (DRs.one (p1.own ow)))
    refine ⟨p0, xs, y, rfl, rfl, g4', by rw [g5'.length]; have : sizeLine = sz := sizeLine_eq; omega, ?_⟩
    exact q _ _ ⟨P, W, ps, pt.1, p1.aft.go.trans rs.rv.sub pt.2, rfl⟩
/-- x[ix] = e -/
theorem place_ixN {n : Nat} {i : Int} {k : Nat} (h : place n i = some k) : ixN n i = some k := by
  unfold place at h
  unfold ixN
  split at h
  · rename_i h0
    rw [if_pos h0]; exact h
  · rename_i h0
    rw [if_neg h0]
    split at h
    · rename_i h1
      rw [if_pos (by omega)]; exact h
    · cases h
theorem s_setx {x : Str} {i : Nat} {px p2 : Pos} {ix : Expr} (hv : PE X (.Name x px) (tVar i)) (hx : PE X ix (tE X.K nr G fr e1)) (h : PE X ex (tE X.K nr G fr e)) (ow : owned e = true)
    (ha : ∀ v, assign (.Subscript (.Name x px) ix p2) X.env v = (do
      let ov ← holding [v] (eval (.Name x px) X.env)
      let iv ← holding [v, ov] (eval ix X.env)
      standAt p2
      holding [v, ov, iv] (setItem ov iv v)
      release [v, ov, iv] []))
    (hs : swapsWithSole [.Subscript (.Name x px) ix p2] ex pos.line X.env = pure false) (hw : swappedStores [.Subscript (.Name x px) ix p2] ex X.env = pure none) :
    PS X (.Assign [.Subscript (.Name x px) ix p2] ex pos) (tS X.K nr G nw (.setx i e1 e)) :=
  PS.weak (ps_asg h (pg_sub hv hx set_list ha) hs hw rfl) fun Dn σ H q => by
    obtain ⟨S0, H0, P, W, ps, vs, cs, fl, rs, ev, q⟩ := q
    simp only [evS] at ev
    obtain ⟨⟨d, cs1⟩, ev1, ev⟩ := LP.R.bind_ok ev
    obtain ⟨k, ek, ev⟩ := LP.R.bind_ok ev
    obtain ⟨⟨j, cs2⟩, ev2, ev⟩ := LP.R.bind_ok ev
    obtain ⟨c, ec, ev⟩ := LP.R.bind_ok ev
    obtain ⟨n, en, ev⟩ := LP.R.bind_ok ev
    obtain ⟨pl, ep, ev⟩ := LP.R.bind_ok ev
    cases ev
    have ek := getC_ok ek
    have ec := LP.R.ofO_ok ec
    have ep := LP.R.ofO_ok ep
    obtain ⟨p0, f1, f2⟩ := rs.rv.var i k ek
    refine ⟨P, W, ps, vs, cs, d, cs1, rs.rv, ev1, fun y H1 p1 => ⟨.ref p0, f2, P, W, ps, vs, cs1, j, cs2, p1.aft.rv, ev2, fun z H2 p2 => ?_⟩⟩
    have r2 := (rs.aft p1.aft).aft p2.aft
    obtain ⟨p', c2, xs, g1, g2', g3', g4', g5'⟩ := r2.rv.cell k (.inr ⟨i, ek⟩)
    rw [f1] at g1; cases g1
    rw [ec] at g2'; cases g2'
    cases j with
    | int m =>
      cases en
      have dr : DR X.K H2 P d y := (p1.own ow).frm p1.aft.rv.sub p1.aft.rv.pr p2.aft.frm
      have pt := r2.put (c := c.set pl d) (xs := xs.set pl y) ek f1 g3' (DRs.set pl g5' dr)
      refine ⟨p0, xs, n, pl, rfl, p2.db.int, g4', by rw [g5'.length]; exact place_ixN ep, ?_⟩
      exact q _ _ ⟨P, W, ps, pt.1, (p1.aft.go.trans rs.rv.sub p2.aft.go).trans rs.rv.sub pt.2, rfl⟩
    | _ => cases en
/-! ### for -/
theorem forLoop_cons {f : D → Vs → Cs → R Fl} {x : D} {xs : List D} {vs : Vs} {cs : Cs} {fl : Fl} (h : forLoop f (x :: xs) vs cs = .ok fl) :
    ∃ f1, f x vs cs = .ok f1 ∧ (match f1 with
      | .nx vs cs => forLoop f xs vs cs
      | .ct vs cs => forLoop f xs vs cs
      | .bk vs cs => .ok (.nx vs cs)
      | .rt d cs => .ok (.rt d cs)) = .ok fl := by
  simp only [forLoop] at h
  obtain ⟨f1, h1, h⟩ := LP.R.bind_ok h
  exact ⟨f1, h1, h⟩
theorem s_for {tg : Tg} {tge iter : Expr} {src : E} {body : List Stmt} {sb : S} (hp : PassesOwn (model X.prog X.w) X.A X.env X.xe) (hc : X.calm = true) (hi : PI X tge iter (tI X.K nr G src)) (hg : PG X tge (tG X.K tg)) (hb : PSs X body (tS X.K nr G nw sb)) (ow : owned src = true)
    (hs : ∀ x, foldedSetIterable iter X.env x = pure x) : PS X (.For tge iter body [] pos) (tS X.K nr G nw (.fors tg src sb)) :=
  PS.weak (ps_for hp hc hi hg hb hs) fun Dn σ H q => by
    obtain ⟨S0, H0, P, W, ps, vs, cs, fl, rs, ev, q⟩ := q
    simp only [evS] at ev
    obtain ⟨⟨d, cs1⟩, ev1, ev⟩ := LP.R.bind_ok ev
    obtain ⟨ds, ev2, ev⟩ := LP.R.bind_ok ev
    simp only at ev ev2
    refine ⟨P, W, ps, vs, cs, d, cs1, ds, rs.rv, ev1, ev2, fun J H1 a1 hlen wkW _ => ?_⟩
    have wk := wkW ow
    have r1 := rs.aft a1
    have sub := rs.rv.sub
    refine ⟨fun i m σi Hi => m = ds.length - i ∧ i ≤ ds.length ∧ ∃ Pi Wi psi vsi csi, RS X.K nr S0 H0 Pi Wi psi vsi csi σi Hi ∧ Go P W H1 Pi Wi Hi ∧ psi.take nr = ps.take nr ∧ forLoop (fun x vs cs => do let vs ← bindTg tg x vs; evS G nr sb vs cs) (ds.drop i) vsi csi = .ok fl,
      ⟨ds.length, by simp, Nat.zero_le _, P, W, ps, vs, cs1, r1, Go.refl _ _ _, rfl, ev⟩, ?_⟩
    rintro i m σi Hi ⟨rfl, hi', Pi, Wi, psi, vsi, csi, ri, gi, ti, evi⟩
    have go2 : ∀ {P' W' : List Addr} {H' : Hp}, Go P W H1 P' W' H' → Go P W H P' W' H' := fun g => a1.go.trans sub g
    by_cases hlt : i < ds.length
    · have hget : ds[i]? = some ds[i] := List.getElem?_eq_getElem hlt
      refine .inr ⟨wk.go i Hi _ gi.frm hget, fun σ' H' => i + 1 ≤ ds.length ∧ ∃ Pi Wi psi vsi csi, RS X.K nr S0 H0 Pi Wi psi vsi csi σ' H' ∧ Go P W H1 Pi Wi H' ∧ psi.take nr = ps.take nr ∧ forLoop (fun x vs cs => do let vs ← bindTg tg x vs; evS G nr sb vs cs) (ds.drop (i + 1)) vsi csi = .ok fl,
        fun σ' H' hN => ⟨ds.length - (i + 1), by omega, rfl, hN.1, hN.2⟩, fun x H' y => ?_⟩
      obtain ⟨fy, dry⟩ := wk.yld i Hi _ x H' Pi gi.frm gi.up hget y
      rw [List.drop_eq_getElem_cons hlt] at evi
      obtain ⟨f1, e1, e2⟩ := forLoop_cons evi
      obtain ⟨vs', eb, e1⟩ := LP.R.bind_ok e1
      have r' := ri.frm (ri.rv.keep fy) (fy.wide (by simp))
      have g' : Go P W H1 Pi Wi H' := gi.trans sub ⟨fy.wide (by simp), fun q h => .inl h, fun q h => .inl h⟩
      refine RV.bind r'.rv dry eb fun σ2 R2 _ _ => ?_
      refine ⟨S0, H0, Pi, Wi, psi, vs', csi, f1, r'.slots R2, e1, ?_⟩
      cases f1 with
      | nx v2 c2 =>
        intro σ3 H3 n3
        obtain ⟨P3, W3, ps3, r3, g3, t3⟩ := n3
        exact ⟨hlt, P3, W3, ps3, v2, c2, r3, g'.trans sub g3, t3.trans ti, e2⟩
      | ct v2 c2 =>
        intro σ3 H3 n3
        obtain ⟨P3, W3, ps3, r3, g3, t3⟩ := n3
        exact ⟨hlt, P3, W3, ps3, v2, c2, r3, g'.trans sub g3, t3.trans ti, e2⟩
      | bk v2 c2 =>
        cases e2
        intro σ3 H3 n3
        obtain ⟨P3, W3, ps3, r3, g3, t3⟩ := n3
        exact q _ _ ⟨P3, W3, ps3, r3, go2 (g'.trans sub g3), t3.trans ti⟩
      | rt d2 c2 =>
        cases e2
        intro x3 H3 p3
        rw [ti] at p3
        exact q x3 H3 p3
    · have e0 : i = ds.length := by omega
      subst e0
      rw [List.drop_length] at evi
      simp only [forLoop] at evi
      cases evi
      exact .inl ⟨wk.stop _ Hi gi.frm rfl, q _ _ ⟨Pi, Wi, psi, ri, go2 gi, ti⟩⟩
end
end LP
set_option autoImplicit false
set_option linter.all false
set_option maxRecDepth 100000
set_option maxHeartbeats 1000000
/-! LPM: is this syntax that expression? -/
namespace LP
open PySem PySem.Spec PyProof.Rows L2
/-! ### views -/
def vConst : Expr → Option Const
  | .Constant c _ _ => some c
  | _ => none
theorem vConst_ok {x : Expr} {c : Const} (h : vConst x = some c) : ∃ k p, x = .Constant c k p := by
  unfold vConst at h; split at h <;> cases h; exact ⟨_, _, rfl⟩
def vName : Expr → Option Str
  | .Name c _ => some c
  | _ => none
theorem vName_ok {x : Expr} {c : Str} (h : vName x = some c) : ∃ p, x = .Name c p := by
  unfold vName at h; split at h <;> cases h; exact ⟨_, rfl⟩
def vTup : Expr → Option (List Expr)
  | .Tuple c _ _ => some c
  | _ => none
theorem vTup_ok {x : Expr} {c : List Expr} (h : vTup x = some c) : ∃ k p, x = .Tuple c k p := by
  unfold vTup at h; split at h <;> cases h; exact ⟨_, _, rfl⟩
def vLst : Expr → Option (List Expr)
  | .List c _ => some c
  | _ => none
theorem vLst_ok {x : Expr} {c : List Expr} (h : vLst x = some c) : ∃ p, x = .List c p := by
  unfold vLst at h; split at h <;> cases h; exact ⟨_, rfl⟩
def vNeg : Expr → Option Expr
  | .UnaryOp .USub c _ => some c
  | _ => none
theorem vNeg_ok {x c : Expr} (h : vNeg x = some c) : ∃ p, x = .UnaryOp .USub c p := by
  unfold vNeg at h; split at h <;> cases h; exact ⟨_, rfl⟩
def vNot : Expr → Option Expr
  | .UnaryOp .Not c _ => some c
  | _ => none
theorem vNot_ok {x c : Expr} (h : vNot x = some c) : ∃ p, x = .UnaryOp .Not c p := by
  unfold vNot at h; split at h <;> cases h; exact ⟨_, rfl⟩
def vIsN : Expr → Option Expr
  | .Compare c [.Is] [.Constant .none _ _] _ => some c
  | _ => none
theorem vIsN_ok {x c : Expr} (h : vIsN x = some c) : ∃ k p q, x = .Compare c [.Is] [.Constant .none k p] q := by
  unfold vIsN at h; split at h <;> cases h; exact ⟨_, _, _, rfl⟩
def vNotN : Expr → Option Expr
  | .Compare c [.IsNot] [.Constant .none _ _] _ => some c
  | _ => none
theorem vNotN_ok {x c : Expr} (h : vNotN x = some c) : ∃ k p q, x = .Compare c [.IsNot] [.Constant .none k p] q := by
  unfold vNotN at h; split at h <;> cases h; exact ⟨_, _, _, rfl⟩
def vCall : Expr → Option (Str × List Expr)
  | .Call (.Name f _) es [] _ => some (f, es)
  | _ => none
theorem vCall_ok {x : Expr} {c : Str × List Expr} (h : vCall x = some c) : ∃ p q, x = .Call (.Name c.1 p) c.2 [] q := by
  unfold vCall at h; split at h <;> cases h; exact ⟨_, _, rfl⟩
def vBin : Expr → Option (Operator × Expr × Expr)
  | .BinOp a o b _ => some (o, a, b)
  | _ => none
theorem vBin_ok {x : Expr} {c : Operator × Expr × Expr} (h : vBin x = some c) : ∃ p, x = .BinOp c.2.1 c.1 c.2.2 p := by
  unfold vBin at h; split at h <;> cases h; exact ⟨_, rfl⟩
def vCmp : Expr → Option (CmpOp × Expr × Expr)
  | .Compare a [o] [b] _ => some (o, a, b)
  | _ => none
theorem vCmp_ok {x : Expr} {c : CmpOp × Expr × Expr} (h : vCmp x = some c) : ∃ p, x = .Compare c.2.1 [c.1] [c.2.2] p := by
  unfold vCmp at h; split at h <;> cases h; exact ⟨_, rfl⟩
def vChain : Expr → Option ((CmpOp × CmpOp) × Expr × Expr × Expr)
  | .Compare a [o, o'] [b, c] _ => some ((o, o'), a, b, c)
  | _ => none
theorem vChain_ok {x : Expr} {c : (CmpOp × CmpOp) × Expr × Expr × Expr} (h : vChain x = some c) : ∃ p, x = .Compare c.2.1 [c.1.1, c.1.2] [c.2.2.1, c.2.2.2] p := by
  unfold vChain at h; split at h <;> cases h; exact ⟨_, rfl⟩
def noSl : Expr → Bool
  | .Slice .. => false
  | _ => true
def vIx : Expr → Option (Expr × Expr)
  | .Subscript a b _ => some (a, b)
  | _ => none
theorem vIx_ok {x : Expr} {c : Expr × Expr} (h : vIx x = some c) : ∃ p, x = .Subscript c.1 c.2 p := by
  unfold vIx at h; split at h <;> cases h; exact ⟨_, rfl⟩
theorem plainIx_of {b : Expr} (h : noSl b = true) : PlainIx b := fun o i => by
  cases b <;> first | rfl | cases h
def vSl : Expr → Option (Expr × Option Expr × Option Expr)
  | .Subscript a (.Slice l h none _) _ => some (a, l, h)
  | _ => none
theorem vSl_ok {x : Expr} {c : Expr × Option Expr × Option Expr} (h : vSl x = some c) : ∃ p q, x = .Subscript c.1 (.Slice c.2.1 c.2.2 none p) q := by
  unfold vSl at h; split at h <;> cases h; exact ⟨_, _, rfl⟩
def vSset (sc : Scope) : Expr → Option Expr
  | .Call (.Name f _) [.Call (.Name g _) [y] [] _] [] _ => if decide (f = ("sorted" : Str)) && decide (g = ("set" : Str)) && decide (sc.names.lookup f = some .globalImplicit) && decide (sc.names.lookup g = some .globalImplicit) && noStar y then some y else none
  | _ => none
theorem vSset_ok {sc : Scope} {x y : Expr} (h : vSset sc x = some y) : ∃ p p2 q pos, x = .Call (.Name "sorted" p) [.Call (.Name "set" p2) [y] [] q] [] pos ∧ sc.names.lookup ("sorted" : Str) = some .globalImplicit ∧ sc.names.lookup ("set" : Str) = some .globalImplicit ∧ noStar y = true := by
  unfold vSset at h
  split at h
  · split at h
    · rename_i hk
      simp only [Bool.and_eq_true, decide_eq_true_eq] at hk
      obtain ⟨⟨⟨⟨rfl, rfl⟩, h3⟩, h4⟩, h5⟩ := hk
      cases h
      exact ⟨_, _, _, _, rfl, h3, h4, h5⟩
    · cases h
  · cases h
def vBool : Expr → Option (BoolOp × List Expr)
  | .BoolOp o es _ => some (o, es)
  | _ => none
theorem vBool_ok {x : Expr} {c : BoolOp × List Expr} (h : vBool x = some c) : ∃ p, x = .BoolOp c.1 c.2 p := by
  unfold vBool at h; split at h <;> cases h; exact ⟨_, rfl⟩
def vIf : Expr → Option (Expr × Expr × Expr)
  | .IfExp c a b _ => some (c, a, b)
  | _ => none
theorem vIf_ok {x : Expr} {c : Expr × Expr × Expr} (h : vIf x = some c) : ∃ p, x = .IfExp c.1 c.2.1 c.2.2 p := by
  unfold vIf at h; split at h <;> cases h; exact ⟨_, rfl⟩
structure VC where
  elt : Expr
  tg : Expr
  iter : Expr
  ifs : List Expr
  scope : Scope
def vComp : Expr → Option VC
  | .ListComp elt [⟨tg, iter, ifs, k⟩] scope _ => if k = 0 then some ⟨elt, tg, iter, ifs, scope⟩ else none
  | _ => none
theorem vComp_ok {x : Expr} {c : VC} (h : vComp x = some c) : ∃ p, x = .ListComp c.elt [⟨c.tg, c.iter, c.ifs, 0⟩] c.scope p := by
  unfold vComp at h
  split at h
  · split at h
    · rename_i hk; cases h; subst hk; exact ⟨_, rfl⟩
    · cases h
  · cases h
def notIf : Expr → Bool
  | .IfExp .. => false
  | _ => true
def noSet : Expr → Bool
  | .Set .. => false
  | _ => true
theorem noSet_ok {x : Expr} {env : Env} (h : noSet x = true) : ∀ v, foldedSetIterable x env v = pure v := fun v => by
  cases x <;> first | rfl | cases h
def isTupE : Expr → Bool
  | .Tuple .. => true
  | _ => false
theorem isTupE_ok {x : Expr} (h : isTupE x = true) : ∃ es k p, x = .Tuple es k p := by
  cases x <;> first | exact ⟨_, _, _, rfl⟩ | cases h

/-! ### tables -/
structure Tab where
  fn : List (Str × (Nat × Nat × List Str))
  cst : List (Str × Nat)
  fr : Nat → Bool
  kw : List (Str × List Str × List Nat)
def isG (sc : Scope) (x : Str) : Bool := decide (sc.names.lookup x = some .globalImplicit) && !(x == ("__debug__" : Str))
def isV (N : List Str) (sc : Scope) (x : Str) (i : Nat) : Bool :=
  decide (N[i]? = some x) && (decide (sc.names.lookup x = some .local) || decide (sc.names.lookup x = some .cell) || decide (sc.names.lookup x = some .free)) && !(x == ("__debug__" : Str)) && !(x == ("__classdict__" : Str))
def binO : Operator → Option O2
  | .Add => some .add
  | .Sub => some .sub
  | .Mult => some .mul
  | .Mod => some .mod
  | .FloorDiv => some .fdiv
  | .Pow => some .pow
  | _ => none
def cmpE : CmpOp → Option O2
  | .Eq => some .eq
  | .NotEq => some .ne
  | .Lt => some .lt
  | .LtE => some .le
  | .Gt => some .gt
  | .GtE => some .ge
  | .In => some .isin
  | .NotIn => some .notin
  | _ => none
/-- built-in functions and types of one argument -/
def b1nm : O1 → Option Str
  | .len => some "len"
  | .tup => some "tuple"
  | .lst => some "list"
  | .all => some "all"
  | .any => some "any"
  | .sum => some "sum"
  | .int => some "int"
  | .abs => some "abs"
  | .srt => some "sorted"
  | _ => none
def tyNm : Ty → Str
  | .int => "int"
  | .str => "str"
  | .bool => "bool"
  | .list => "list"
  | .tuple => "tuple"
def bltNames : List Str := ["len", "tuple", "list", "all", "any", "sum", "int", "abs", "sorted", "set", "range", "enumerate", "zip", "isinstance", "str", "bool", "min", "max"]
def mTys (sc : Scope) : List Expr → List Ty → Bool
  | [], [] => true
  | x :: xs, t :: ts => decide (vName x = some (tyNm t)) && isG sc (tyNm t) && mTys sc xs ts
  | _, _ => false
/-- how an expression is looked at -/
inductive Md where
  | ex (x : Expr) | row (es : List Expr) | bool (op : BoolOp) (es : List Expr) | src (tg x : Expr)
def bMode (op : BoolOp) : List Expr → Md
  | [x] => .ex x
  | es => .bool op es
def isSrcE : E → Bool
  | .rng1 _ => true
  | .rng2 _ _ => true
  | .enum _ => true
  | .zip _ _ => true
  | _ => false
def sMode (e : E) (tg x : Expr) : Md := if isSrcE e then .src tg x else .ex x
def tgOwn : Expr → Tg → List (Str × Nat)
  | .Name x _, .nm i => [(x, i)]
  | .Tuple es _ _, .tp is => (es.filterMap vName).zip is
  | _, _ => []
def isLitT : E → Bool
  | .lit (.bool true) => true
  | _ => false
def fnB (scope : Scope) : Str → Bool := fun x => scope.names.lookup x == some .cell
def bOps : BoolOp → List Expr → Option (Expr × List Expr)
  | _, x :: y :: r => some (x, y :: r)
  | _, _ => none
def oneIf : List Expr → Bool
  | [y] => notIf y
  | _ => true
def exOf : Md → Option Expr
  | .ex x => some x
  | _ => none
def boolOf : Md → Option (BoolOp × List Expr)
  | .ex x => vBool x
  | .bool op es => some (op, es)
  | _ => none
def bndM (f : Md → Bool) (e : E) : Option Expr → Bool
  | none => bndE e
  | some x => !bndE e && f (.ex x)
def condM (f : Md → Bool) (e : E) : List Expr → Bool
  | [] => isLitT e
  | [x] => notIf x && f (.ex x)
  | _ => false
def callOf (T : Tab) (sc : Scope) (x : Expr) : Option ((Nat × Nat × List Str) × List Expr) :=
  match vCall x with
  | some (f, es) => if isG sc f && es.all noStar then (T.fn.lookup f).map fun z => (z, es) else none
  | none => none
structure KC where
  name : Str
  id : Nat
  ps : List Str
  ks : List Str
  perm : List Nat
  kws : List Keyword
def KC.vals (c : KC) : List Expr := c.kws.map (·.value)
/-- f(k = v, ..) -/
def kcallOf (T : Tab) (sc : Scope) : Expr → Option KC
  | .Call (.Name f _) [] (k0 :: kws) _ => if isG sc f && (k0 :: kws).all (fun k => k.arg.isSome) && (k0 :: kws).all (fun k => noStar k.value) then
      (match T.fn.lookup f, T.kw.find? (fun z => z.1 == f && z.2.1 == (k0 :: kws).filterMap (·.arg)) with
      | some (g, 0, ps), some (_, ks, perm) => some ⟨f, g, ps, ks, perm, k0 :: kws⟩
      | _, _ => none) else none
  | _ => none
theorem kcallOf_ok {T : Tab} {sc : Scope} {x : Expr} {c : KC} (h : kcallOf T sc x = some c) : ∃ p q, x = .Call (.Name c.name p) [] c.kws q ∧ isG sc c.name = true ∧ c.kws.all (fun k => k.arg.isSome) = true ∧ c.kws.filterMap (·.arg) = c.ks ∧ T.fn.lookup c.name = some (c.id, 0, c.ps) ∧ (c.name, c.ks, c.perm) ∈ T.kw := by
  unfold kcallOf at h
  split at h
  · rename_i f p k0 kws q
    split at h
    · rename_i hk
      split at h
      · rename_i g ps n ks perm e1 e2
        cases h
        simp only [Bool.and_eq_true] at hk
        have m := List.find?_some e2
        simp only [Bool.and_eq_true, beq_iff_eq] at m
        have mem := List.mem_of_find?_eq_some e2
        obtain ⟨rfl, m2⟩ := m
        exact ⟨p, q, rfl, hk.1.1, hk.1.2, m2.symm, e1, mem⟩
      · cases h
    · cases h
  · cases h
/-- f(y), f the built-in of o -/
def callB1 (o : O1) (sc : Scope) (x : Expr) : Option Expr :=
  match vCall x with
  | some (f, [y]) => if decide (b1nm o = some f) && isG sc f && noStar y then some y else none
  | _ => none
theorem callB1_ok {o : O1} {sc : Scope} {x y : Expr} (h : callB1 o sc x = some y) : ∃ f p q, x = .Call (.Name f p) [y] [] q ∧ b1nm o = some f ∧ isG sc f = true ∧ noStar y = true := by
  unfold callB1 at h
  split at h
  · rename_i f y' hc
    obtain ⟨p, q, rfl⟩ := vCall_ok hc
    split at h
    · rename_i hk
      cases h
      simp only [Bool.and_eq_true, decide_eq_true_eq] at hk
      exact ⟨f, p, q, rfl, hk.1.1, hk.1.2, hk.2⟩
    · cases h
  · cases h
def mX (T : Tab) (N : List Str) : E → Scope → (Str → Bool) → Md → Bool
  | .lit d, sc, fn, md =>
    match exOf md with
    | some x => (match vConst x, d with
      | some (.int i), .int j => decide (i = j)
      | some (.bool i), .bool j => decide (i = j)
      | some (.str i), .str j => decide (i = j)
      | some .none, .none => true
      | _, _ => false)
    | none => false
  | .gl k, sc, fn, md => (match (exOf md).bind vName with
    | some x => isG sc x && decide (T.cst.lookup x = some k)
    | none => false)
  | .var i, sc, fn, md => (match (exOf md).bind vName with
    | some x => isV N sc x i
    | none => false)
  | .pk i, sc, fn, md => (match (exOf md).bind vName with
    | some x => isV N sc x i
    | none => false)
  | .nil, sc, fn, md => (match md with
    | .row [] => true
    | _ => false)
  | .cons a r, sc, fn, md => (match md with
    | .row (x :: xs) => noStar x && (owned a || quiet r) && mX T N a sc fn (.ex x) && mX T N r sc fn (.row xs)
    | _ => false)
  | .tup r, sc, fn, md => (match (exOf md).bind vTup with
    | some es => decide (es.length ≤ 1000) && !lends r && mX T N r sc fn (.row es)
    | none => false)
  | .lst r, sc, fn, md => (match (exOf md).bind vLst with
    | some es => decide (es.length ≤ 1000) && !lends r && mX T N r sc fn (.row es)
    | none => false)
  | .o1 o a, sc, fn, md => (match o, exOf md with
    | .neg, some x => (match vNeg x with | some y => mX T N a sc fn (.ex y) | none => false)
    | .nt, some x => (match vNot x with | some y => notIf y && mX T N a sc fn (.ex y) | none => false)
    | .isN, some x => (match vIsN x with | some y => mX T N a sc fn (.ex y) | none => false)
    | .notN, some x => (match vNotN x with | some y => mX T N a sc fn (.ex y) | none => false)
    | .sset, some x => (match vSset sc x with | some y => mX T N a sc fn (.ex y) | none => false)
    | o, some x => (match callB1 o sc x with
      | some y => mX T N a sc fn (.ex y)
      | none => false)
    | _, none => false)
  | .o2 o a b, sc, fn, md => (match exOf md with
    | some x => (owned a || quiet b) && (match vBin x with
      | some (p, y, z) => decide (binO p = some o) && mX T N a sc fn (.ex y) && mX T N b sc fn (.ex z)
      | none => (match vIx x with
        | some (y, z) => decide (o = .idx) && noSl z && mX T N a sc fn (.ex y) && mX T N b sc fn (.ex z)
        | none => (match vCmp x with
          | some (p, y, z) => decide (cmpE p = some o) && !behindInMarks p z && mX T N a sc fn (.ex y) && mX T N b sc fn (.ex z)
          | none => false)))
    | none => false)
  | .and a b, sc, fn, md => (match boolOf md with
    | some (.And, es) => (match bOps .And es with
      | some (x, r) => notIf x && mX T N a sc fn (.ex x) && oneIf r && mX T N b sc fn (bMode .And r)
      | none => false)
    | _ => false)
  | .or a b, sc, fn, md => (match boolOf md with
    | some (.Or, es) => (match bOps .Or es with
      | some (x, r) => notIf x && mX T N a sc fn (.ex x) && oneIf r && mX T N b sc fn (bMode .Or r)
      | none => false)
    | _ => false)
  | .ife c a b, sc, fn, md => (match (exOf md).bind vIf with
    | some (x, y, z) => notIf x && mX T N c sc fn (.ex x) && mX T N a sc fn (.ex y) && mX T N b sc fn (.ex z)
    | none => false)
  | .isi a ts, sc, fn, md => (match (exOf md).bind vCall with
    | some (f, [x, c]) => decide (f = ("isinstance" : Str)) && isG sc f && noStar x && mX T N a sc fn (.ex x) && (match vTup c, ts with
      | some cs, ts => decide (ts.length ≤ 10) && mTys sc cs ts
      | none, [t] => decide (vName c = some (tyNm t)) && isG sc (tyNm t)
      | none, _ => false)
    | _ => false)
  | .sl a l h, sc, fn, md => (match (exOf md).bind vSl with
    | some (x, lo, hi) => (owned a || (quiet l && quiet h)) && mX T N a sc fn (.ex x) && bndM (mX T N l sc fn) l lo && bndM (mX T N h sc fn) h hi
    | none => false)
  | .nob, _, _, _ => false
  | .chain o o' a b c, sc, fn, md => (match (exOf md).bind vChain with
    | some ((p, p'), x, y, z) => decide (cmpE p = some o) && decide (cmpE p' = some o') && !lastMarks [p, p'] [y, z] && (owned a && owned b) && mX T N a sc fn (.ex x) && mX T N b sc fn (.ex y) && mX T N c sc fn (.ex z)
    | none => false)
  | .comp tg src cond elt, sc, fn, md => (match (exOf md).bind vComp with
    | some c => noSet c.iter && mX T N src sc fn (sMode src c.tg c.iter) && blkC N sc c.scope (tgOwn c.tg tg) && decide ((tgOwn c.tg tg).map (·.2) = tgIx tg) && mTg N (relS c.scope sc) (fnB c.scope) c.tg tg &&
      condM (mX T N cond (relS c.scope sc) (fnB c.scope)) cond c.ifs && mX T N elt (relS c.scope sc) (fnB c.scope) (.ex c.elt) && (owned src || (quiet cond && quiet elt)) && owned elt
    | none => false)
  | .rng1 a, sc, fn, md => (match md with
    | .src tg x => (match vCall x with
      | some (f, [y]) => decide (f = ("range" : Str)) && isG sc f && noStar y && mX T N a sc fn (.ex y)
      | _ => false)
    | _ => false)
  | .rng2 a b, sc, fn, md => (match md with
    | .src tg x => (match vCall x with
      | some (f, [y, z]) => decide (f = ("range" : Str)) && isG sc f && noStar y && noStar z && (owned a || quiet b) && mX T N a sc fn (.ex y) && mX T N b sc fn (.ex z)
      | _ => false)
    | _ => false)
  | .enum a, sc, fn, md => (match md with
    | .src tg x => isTupE tg && (match vCall x with
      | some (f, [y]) => decide (f = ("enumerate" : Str)) && isG sc f && noStar y && owned a && mX T N a sc fn (.ex y)
      | _ => false)
    | _ => false)
  | .zip a b, sc, fn, md => (match md with
    | .src tg x => isTupE tg && (match vCall x with
      | some (f, [y, z]) => decide (f = ("zip" : Str)) && isG sc f && noStar y && noStar z && (owned a && owned b) && mX T N a sc fn (.ex y) && mX T N b sc fn (.ex z)
      | _ => false)
    | _ => false)
  | .call f refs r, sc, fn, md => (match (exOf md).bind (callOf T sc) with
    | some ((g, 0, ps), es) => decide (g = f) && decide (refs = []) && decide (es.length = ps.length) && mX T N r sc fn (.row es)
    | some ((g, 1, ps), x :: es) => (match refs, vName x with
      | [i], some y => decide (g = f) && isV N sc y i && decide (es.length + 1 = ps.length) && !lends r && mX T N r sc fn (.row es)
      | _, _ => false)
    | _ => false)
  | .callk f perm r, sc, fn, md => (match (exOf md).bind (kcallOf T sc) with
    | some c => decide (c.id = f) && decide (c.perm = perm) && decide (perm.length = c.ps.length) && !lends r && mX T N r sc fn (.row c.vals)
    | none => false)
  | .callt f a r, sc, fn, md => (match (exOf md).bind (callOf T sc) with
    | some ((g, 1, ps), x :: es) => decide (g = f) && decide (es.length + 1 = ps.length) && !lends r && fresh T.fr a && mX T N a sc fn (.ex x) && mX T N r sc fn (.row es)
    | _ => false)
  | .rep a b, sc, fn, md => (match (exOf md).bind vBin with
    | some (p, y, z) => decide (p = .Mult) && fresh T.fr a && quiet b && mX T N a sc fn (.ex y) && mX T N b sc fn (.ex z)
    | none => false)
end LP
set_option autoImplicit false
set_option linter.all false
set_option maxRecDepth 100000
set_option maxHeartbeats 1000000
/-! LPMs: what matches is sound. -/
namespace LP
open PySem PySem.Spec PyProof.Rows L2
structure HX (T : Tab) (N : List Str) (G : Gx) (n : Nat) (X : L2.Cx) (sc : Scope) (fn : Str → Bool) : Prop where
  calm : X.calm = true
  nd : X.N.Nodup
  hN : X.N = N
  hsc : X.env.scope = sc
  hfn : X.fn = fn
  kind : sc.kind = .function
  room : Room n X.A
  units : X.A.units + 200 < cLine
  blt : ∀ x ∈ bltNames, X.mg x = none
  fns : ∀ x f nr ps, T.fn.lookup x = some (f, nr, ps) → FnF X G T.fr n x f nr ps
  cst : ∀ x k, T.cst.lookup x = some k → ∃ d v u, X.mg x = some u ∧ RelV v u ∧ G.consts k = some d ∧ ∀ H P, DR X.K H P d v
  kws : ∀ x ks perm f ps, (x, ks, perm) ∈ T.kw → T.fn.lookup x = some (f, 0, ps) → ∃ a fd, X.mg x = some (.ref a) ∧ PySem.W.keepIn X.K (.ref a) = true ∧ KBn X.K fd ps 0 ks (fun _ ws => pick perm ws) (fun _ zs => pick perm zs) ∧ FnOk X.prog X.w X.K X.mg X.base CX0 n a fd ps (spF X.K G.cl T.fr f 0 ps.length)
section
variable {T : Tab} {N : List Str} {G : Gx} {n : Nat} {X : L2.Cx} {sc : Scope} {fn : Str → Bool}
theorem HX.blk (h : HX T N G n X sc fn) (s : Shared) (H : Hp) {scope : Scope} (C : Addr) (cl : List (Str × Addr)) (fp : List Addr) (hk : scope.kind = .function) : HX T N G n (X.blk s H scope (compEnvC scope cl C X.env) fp) (relS scope sc) (fnB scope) :=
  ⟨h.calm, h.nd, h.hN, by rw [← h.hsc]; rfl, rfl, hk, h.room, h.units, h.blt, fun x f nr ps e => ⟨(h.fns x f nr ps e).ex⟩, h.cst, h.kws⟩
theorem HX.gl (h : HX T N G n X sc fn) {x : Str} (e : isG sc x = true) : Gl X x ∧ (x == ("__debug__" : Str)) = false := by
  unfold isG at e
  rw [Bool.and_eq_true] at e
  refine ⟨?_, by simpa using e.2⟩
  show X.env.scope.names.lookup x = some .globalImplicit
  rw [h.hsc]
  exact of_decide_eq_true e.1
theorem HX.var (h : HX T N G n X sc fn) {x : Str} {i : Nat} {p : Pos} (e : isV N sc x i = true) : PE X (.Name x p) (tVar i) := by
  simp only [isV, Bool.and_eq_true, Bool.or_eq_true, decide_eq_true_eq, Bool.not_eq_true'] at e
  obtain ⟨⟨⟨e1, e2⟩, e3⟩, e4⟩ := e
  refine pe_var (by rw [h.hN]; exact e1) ?_ e3 e4
  rw [h.hsc]
  rcases e2 with (e2 | e2) | e2
  · exact .inl e2
  · exact .inr (.inl e2)
  · exact .inr (.inr e2)
end
def plainT : Expr → Bool
  | .UnaryOp .Not _ _ => false
  | .BoolOp .. => false
  | .IfExp .. => false
  | .Compare .. => false
  | _ => true
theorem plainT_ok {x : Expr} {env : Env} (h : plainT x = true) : ∀ whole, isTrue x env whole = (do let v ← whole; standAt x.pos; holding [v] (truthy v)) := fun whole => by
  cases x with
  | UnaryOp op _ _ => cases op <;> first | rfl | cases h
  | BoolOp => cases h
  | IfExp => cases h
  | Compare => cases h
  | _ => rfl
def Snd (X : L2.Cx) (nr : Nat) (G : Gx) (fr : Nat → Bool) (e : E) : Md → Prop
  | .ex x => PE X x (tE X.K nr G fr e) ∧ (notIf x = true → PT X x (tT X.K nr G e))
  | .row es => PA X es (tR X.K nr G e) ∧ isRow e = true ∧ rowLen e = es.length ∧ es.all noStar = true ∧ ∀ kws : List Keyword, kws.map (·.value) = es → PK X kws (tR X.K nr G e)
  | .bool op es => ∀ pos, PE X (.BoolOp op es pos) (tE X.K nr G fr e) ∧ PW X (.BoolOp op es pos) (tT X.K nr G e)
  | .src tg x => PI X tg x (tI X.K nr G e)
section
variable {X : L2.Cx} {nr : Nat} {G : Gx} {fr : Nat → Bool} {e e1 e2 e3 : E} {x y : Expr}
theorem Snd.val (h : PE X x (tE X.K nr G fr e)) (hp : plainT x = true) : Snd X nr G fr e (.ex x) := ⟨h, fun _ => test_of h (plainT_ok hp)⟩
theorem binO_ok {p : Operator} {o : O2} (h : binO p = some o) : OpR X (binaryOp p) (rG X.K (op2 o) true) := by
  cases p <;> cases h
  · exact op_addG
  · exact op_subG
  · exact op_mulG
  · exact op_modG
  · exact op_powG
  · exact op_fdivG
theorem cmpE_ok (hu : X.A.units + 200 < cLine) {p : CmpOp} {o : O2} (h : cmpE p = some o) : OpR X (compareOp p) (rG X.K (op2 o) true) ∧ cmpO o = true := by
  have hu : X.A.units + 64 < cLine := by omega
  cases p <;> cases h
  · exact ⟨op_eqG hu, rfl⟩
  · exact ⟨op_neG hu, rfl⟩
  · exact ⟨op_ltG hu, rfl⟩
  · exact ⟨op_leG, rfl⟩
  · exact ⟨op_gtG, rfl⟩
  · exact ⟨op_geG, rfl⟩
  · exact ⟨op_inG hu, rfl⟩
  · exact ⟨op_notinG hu, rfl⟩
theorem b1_ok {o : O1} {f : Str} {p q : Pos} (hc : X.calm = true) (hu : X.A.units + 200 < cLine) (hb : ∀ x ∈ bltNames, X.mg x = none) (h : b1nm o = some f) (hg : Gl X f) (ha : PE X y (tE X.K nr G fr e)) (hs : noStar y = true) : PE X (.Call (.Name f p) [y] [] q) (tE X.K nr G fr (.o1 o e)) := by
  cases o <;> cases h
  · exact e_b1 call_lenG hg (hb _ (by decide)) (by rfl) ha hs (by decide) (by decide)
  · exact e_t1 call_tupG hg (hb _ (by decide)) (by rfl) ha hs (by decide) (by decide)
  · exact e_t1 call_lstG hg (hb _ (by decide)) (by rfl) ha hs (by decide) (by decide)
  · exact e_b1 (call_allG hc) hg (hb _ (by decide)) (by rfl) ha hs (by decide) (by decide)
  · exact e_b1 (call_anyG hc) hg (hb _ (by decide)) (by rfl) ha hs (by decide) (by decide)
  · exact e_b1 (call_sumG hc) hg (hb _ (by decide)) (by rfl) ha hs (by decide) (by decide)
  · exact e_t1 call_intG hg (hb _ (by decide)) (by rfl) ha hs (by decide) (by decide)
  · exact e_b1 call_absG hg (hb _ (by decide)) (by rfl) ha hs (by decide) (by decide)
  · exact e_b1 (call_srtG hu) hg (hb _ (by decide)) (by rfl) ha hs (by decide) (by decide)
theorem ty_ok {t : Ty} {p : Pos} (hb : ∀ x ∈ bltNames, X.mg x = none) (hg : Gl X (tyNm t)) : PE X (.Name (tyNm t) p) (tC (.ty (tyS t))) := by
  cases t
  · exact pe_bltn (u := .type "int") hg (hb _ (by decide)) (by rfl) rfl (by decide) (by decide)
  · exact pe_bltn (u := .type "str") hg (hb _ (by decide)) (by rfl) rfl (by decide) (by decide)
  · exact pe_bltn (u := .type "bool") hg (hb _ (by decide)) (by rfl) rfl (by decide) (by decide)
  · exact pe_bltn (u := .type "list") hg (hb _ (by decide)) (by rfl) rfl (by decide) (by decide)
  · exact pe_bltn (u := .type "tuple") hg (hb _ (by decide)) (by rfl) rfl (by decide) (by decide)
theorem tys_ok {T : Tab} {N : List Str} {n : Nat} {sc : Scope} {fn : Str → Bool} (hx : HX T N G n X sc fn) : ∀ {es : List Expr} {ts : List Ty}, mTys sc es ts = true → ∃ t, PA X es t ∧ isTys X.K t ts
  | [], [], _ => ⟨tNil, pa_nil, fun σ H Q q => q⟩
  | [], _ :: _, h => by cases h
  | _ :: _, [], h => by cases h
  | x :: xs, t :: ts, h => by
    simp only [mTys, Bool.and_eq_true] at h
    obtain ⟨p, rfl⟩ := vName_ok (of_decide_eq_true h.1.1)
    obtain ⟨u, h1, h2⟩ := tys_ok hx h.2
    exact ⟨_, pa_cons (ty_ok hx.blt (hx.gl h.1.2).1) h1, fun σ H Q q => h2 _ _ _ q⟩
theorem chain_bool {o o' : O2} {a b c : E} {vs : Vs} {cs cs' : Cs} {d : D} (h : cmpO o = true) (h' : cmpO o' = true) (ev : evE G (.chain o o' a b c) vs cs = .ok (d, cs')) : ∃ k, d = .bool k := by
  simp only [evE] at ev
  obtain ⟨⟨d1, cs1⟩, ev1, ev⟩ := LP.R.bind_ok ev
  obtain ⟨⟨d2, cs2⟩, ev2, ev⟩ := LP.R.bind_ok ev
  obtain ⟨r, ev3, ev⟩ := LP.R.bind_ok ev
  obtain ⟨k, rfl⟩ := cmp_bool h ev3
  cases k with
  | false => cases ev; exact ⟨_, rfl⟩
  | true =>
    simp only at ev
    obtain ⟨⟨d4, cs4⟩, ev4, ev⟩ := LP.R.bind_ok ev
    obtain ⟨r, ev5, ev⟩ := LP.R.bind_ok ev
    cases ev
    exact cmp_bool h' ev5
theorem t_chain {op op' : CmpOp} {o o' : O2} {a b c : Expr} {pos : Pos} (ho : OpR X (compareOp op) (rG X.K (op2 o) true)) (ho' : OpR X (compareOp op') (rG X.K (op2 o') true)) (ha : PE X a (tE X.K nr G fr e1)) (hb : PE X b (tE X.K nr G fr e2)) (hc : PE X c (tE X.K nr G fr e3))
    (hm : lastMarks [op, op'] [b, c] = false) (h1 : (owned e1 && owned e2) = true) (hcm : cmpO o = true) (hcm' : cmpO o' = true) : PT X (.Compare a [op, op'] [b, c] pos) (tT X.K nr G (.chain o o' e1 e2 e3)) :=
  PT.weak (pt_chain ho ho' ha hb hc hm) fun σ H Q q => by
    obtain ⟨P, W, ps, vs, cs, d, cs', k, R, ev, tr, q⟩ := q
    obtain ⟨k', rfl⟩ := chain_bool hcm hcm' ev
    cases tr
    exact chain_weak h1 hcm σ H _ ⟨P, W, ps, vs, cs, _, cs', R, ev, fun x H' p => ⟨_, p.db.bool, q H' p.aft⟩⟩
theorem krow_nil : PK X [] (tR X.K nr G .nil) := by
  refine ⟨fun pos pins s σ H Q I q => pk_nil.run pos pins s σ H Q I ?_⟩
  obtain ⟨P, W, ps, vs, cs, ds, cs', R, ev, q⟩ := q
  simp only [evE] at ev
  cases ev
  exact q [] H ⟨Aft.refl R, rfl, fun _ => rfl⟩
theorem krow_cons {nm : Option Str} {kp : Pos} {ex : Expr} {kws : List Keyword} {a r : E} (ha : PE X ex (tE X.K nr G fr a)) (hr : PK X kws (tR X.K nr G r)) (wf : (owned a || quiet r) = true) : PK X (⟨nm, ex, kp⟩ :: kws) (tR X.K nr G (.cons a r)) := by
  refine ⟨fun pos pins s σ H Q I h => (pk_cons ha hr).run pos pins s σ H Q I ?_⟩
  obtain ⟨P, W, ps, vs, cs, ds, cs', R, ev, q⟩ := h
  simp only [evE] at ev
  obtain ⟨⟨d1, cs1⟩, ev1, ev⟩ := LP.R.bind_ok ev
  obtain ⟨⟨t2, cs2⟩, ev2, ev⟩ := LP.R.bind_ok ev
  cases t2 with
  | tuple ds2 =>
    cases ev
    refine ⟨P, W, ps, vs, cs, d1, cs1, R, ev1, fun x H1 p1 => ⟨P, W, ps, vs, cs1, ds2, _, p1.aft.rv, ev2, fun ys H2 p2 => q (x :: ys) H2 ?_⟩⟩
    refine ⟨p1.aft.trans p2.aft, ⟨x, ys, rfl, p1.over p2.aft wf, p2.db⟩, fun l => ?_⟩
    simp only [lends, Bool.or_eq_false_iff, Bool.not_eq_false'] at l
    simp only [DRs]
    exact ⟨x, ys, rfl, (p1.own l.1).frm p1.aft.rv.sub p1.aft.rv.pr p2.aft.frm, p2.own l.2⟩
  | _ => cases ev
theorem kw_names {env : Env} {pos : Pos} : ∀ {kws : List Keyword}, (backToKw pos (keywordEach kws env)).map (·.1) = kws.map (·.arg)
  | [] => rfl
  | ⟨nm, v, p⟩ :: kws => by
    show nm :: (backToKw pos (keywordEach kws env)).map (·.1) = _
    rw [kw_names, List.map_cons]
end
end LP
set_option autoImplicit false
set_option linter.all false
set_option maxRecDepth 100000
set_option maxHeartbeats 2000000
/-! LPMt: the matcher is sound. -/
namespace LP
open PySem PySem.Spec PyProof.Rows L2
theorem bMode_ok {X : L2.Cx} {nr : Nat} {G : Gx} {fr : Nat → Bool} {e : E} {op : BoolOp} {r : List Expr} (hne : r ≠ []) (hi : oneIf r = true) (h : Snd X nr G fr e (bMode op r)) (pos : Pos) :
    PE X (.BoolOp op r pos) (tE X.K nr G fr e) ∧ PW X (.BoolOp op r pos) (tT X.K nr G e) := by
  match r, hne, hi, h with
  | [y], _, hi, h => exact ⟨e_one h.1, t_one (h.2 hi)⟩
  | y :: z :: r, _, _, h => exact h pos
theorem mX_ok {T : Tab} {N : List Str} {G : Gx} {n nr : Nat} : ∀ (e : E) (X : L2.Cx) (sc : Scope) (fn : Str → Bool) (md : Md), HX T N G n X sc fn → mX T N e sc fn md = true → Snd X nr G T.fr e md := by
  intro e
  induction e with
  | lit d =>
    intro X sc fn md hx h
    cases md with
    | ex x =>
      simp only [mX, exOf] at h
      cases hc : vConst x with
      | none => rw [hc] at h; cases h
      | some c =>
        obtain ⟨k, p, rfl⟩ := vConst_ok hc
        rw [hc] at h
        cases c <;> cases d <;> first | cases h | skip
        · exact Snd.val e_none rfl
        · simp only [decide_eq_true_eq] at h; subst h; exact Snd.val e_bool rfl
        · simp only [decide_eq_true_eq] at h; subst h; exact Snd.val e_int rfl
        · simp only [decide_eq_true_eq] at h; subst h; exact Snd.val e_str rfl
    | _ => simp only [mX, exOf] at h; cases h
  | gl k =>
    intro X sc fn md hx h
    cases md with
    | ex x =>
      simp only [mX, exOf, Option.bind_some] at h
      cases hc : vName x with
      | none => rw [hc] at h; cases h
      | some c =>
        obtain ⟨p, rfl⟩ := vName_ok hc
        rw [hc] at h
        simp only [Bool.and_eq_true, decide_eq_true_eq] at h
        obtain ⟨g1, g2⟩ := hx.gl h.1
        obtain ⟨d, v, u, m1, m2, m3, m4⟩ := hx.cst c k h.2
        exact Snd.val (e_gl (pe_glob g1 m1 m2 g2) m3 m4) rfl
    | _ => simp only [mX, exOf, Option.bind_none] at h; cases h
  | var i =>
    intro X sc fn md hx h
    cases md with
    | ex x =>
      simp only [mX, exOf, Option.bind_some] at h
      cases hc : vName x with
      | none => rw [hc] at h; cases h
      | some c =>
        obtain ⟨p, rfl⟩ := vName_ok hc
        rw [hc] at h
        exact Snd.val (e_var (hx.var h)) rfl
    | _ => simp only [mX, exOf, Option.bind_none] at h; cases h
  | pk i =>
    intro X sc fn md hx h
    cases md with
    | ex x =>
      simp only [mX, exOf, Option.bind_some] at h
      cases hc : vName x with
      | none => rw [hc] at h; cases h
      | some c =>
        obtain ⟨p, rfl⟩ := vName_ok hc
        rw [hc] at h
        exact Snd.val (e_pk (hx.var h)) rfl
    | _ => simp only [mX, exOf, Option.bind_none] at h; cases h
  | nil =>
    intro X sc fn md hx h
    cases md with
    | row es =>
      cases es with
      | nil => exact ⟨row_nil, rfl, rfl, rfl, fun kws e => by rw [List.map_eq_nil_iff.mp e]; exact krow_nil⟩
      | cons _ _ => simp only [mX] at h; cases h
    | _ => simp only [mX] at h; cases h
  | cons a r iha ihr =>
    intro X sc fn md hx h
    cases md with
    | row es =>
      cases es with
      | nil => simp only [mX] at h; cases h
      | cons x xs =>
        simp only [mX, Bool.and_eq_true] at h
        obtain ⟨⟨⟨h1, h2⟩, h3⟩, h4⟩ := h
        have a1 := iha X sc fn _ hx h3
        have a2 := ihr X sc fn _ hx h4
        exact ⟨row_cons a1.1 a2.1 h1 h2, a2.2.1, by simp only [rowLen, List.length_cons]; rw [a2.2.2.1], by rw [List.all_cons, h1, a2.2.2.2.1]; rfl, fun kws e => by
          cases kws with
          | nil => cases e
          | cons k kws =>
            obtain ⟨nm, ex, kp⟩ := k
            rw [List.map_cons] at e
            obtain ⟨e1, e2⟩ := List.cons.inj e
            have e1 : ex = x := e1
            subst e1
            exact krow_cons a1.1 (a2.2.2.2.2 kws e2) h2⟩
    | _ => simp only [mX] at h; cases h
  | tup r ih =>
    intro X sc fn md hx h
    cases md with
    | ex x =>
      simp only [mX, exOf, Option.bind_some] at h
      cases hc : vTup x with
      | none => rw [hc] at h; cases h
      | some es =>
        obtain ⟨k, p, rfl⟩ := vTup_ok hc
        rw [hc] at h
        simp only [Bool.and_eq_true, decide_eq_true_eq, Bool.not_eq_true'] at h
        have a1 := ih X sc fn _ hx h.2
        exact Snd.val (e_tup a1.1 a1.2.1 (by rw [a1.2.2.1]; exact h.1.1) h.1.2) rfl
    | _ => simp only [mX, exOf, Option.bind_none] at h; cases h
  | lst r ih =>
    intro X sc fn md hx h
    cases md with
    | ex x =>
      simp only [mX, exOf, Option.bind_some] at h
      cases hc : vLst x with
      | none => rw [hc] at h; cases h
      | some es =>
        obtain ⟨p, rfl⟩ := vLst_ok hc
        rw [hc] at h
        simp only [Bool.and_eq_true, decide_eq_true_eq, Bool.not_eq_true'] at h
        have a1 := ih X sc fn _ hx h.2
        exact Snd.val (e_lst a1.1 a1.2.1 (by rw [a1.2.2.1]; exact h.1.1) h.1.2) rfl
    | _ => simp only [mX, exOf, Option.bind_none] at h; cases h
  | o1 o a ih =>
    intro X sc fn md hx h
    cases md with
    | ex x =>
      have gen : ∀ {y : Expr}, callB1 o sc x = some y → mX T N a sc fn (.ex y) = true → Snd X nr G T.fr (.o1 o a) (.ex x) := fun {y} hc h4 => by
        obtain ⟨f, p, q, rfl, h1, h2, h3⟩ := callB1_ok hc
        exact Snd.val (b1_ok hx.calm hx.units hx.blt h1 (hx.gl h2).1 (ih X sc fn _ hx h4).1 h3) rfl
      cases o with
      | neg =>
        simp only [mX, exOf] at h
        split at h
        · rename_i y hc
          obtain ⟨p, rfl⟩ := vNeg_ok hc
          exact Snd.val (e_neg (ih X sc fn _ hx h).1) rfl
        · cases h
      | nt =>
        simp only [mX, exOf] at h
        split at h
        · rename_i y hc
          obtain ⟨p, rfl⟩ := vNot_ok hc
          rw [Bool.and_eq_true] at h
          have a1 := ih X sc fn _ hx h.2
          exact ⟨e_not a1.1, fun _ => t_not (a1.2 h.1)⟩
        · cases h
      | isN =>
        simp only [mX, exOf] at h
        split at h
        · rename_i y hc
          obtain ⟨k, p, q, rfl⟩ := vIsN_ok hc
          have a1 := ih X sc fn _ hx h
          exact ⟨e_isN a1.1, fun _ => t_isN a1.1⟩
        · cases h
      | sset =>
        simp only [mX, exOf] at h
        split at h
        · rename_i y hc
          obtain ⟨p, p2, q, pos, rfl, g1, g2, h3⟩ := vSset_ok hc
          refine Snd.val (e_sset hx.calm hx.units ?_ (hx.blt _ (by decide)) ?_ (hx.blt _ (by decide)) (ih X sc fn _ hx h).1 h3) rfl
          · show X.env.scope.names.lookup _ = _
            rw [hx.hsc]; exact g1
          · show X.env.scope.names.lookup _ = _
            rw [hx.hsc]; exact g2
        · cases h
      | notN =>
        simp only [mX, exOf] at h
        split at h
        · rename_i y hc
          obtain ⟨k, p, q, rfl⟩ := vNotN_ok hc
          have a1 := ih X sc fn _ hx h
          exact ⟨e_notN a1.1, fun _ => t_notN a1.1⟩
        · cases h
      | _ =>
        simp only [mX, exOf] at h
        split at h
        · rename_i y hc
          exact gen hc h
        · cases h
    | _ => simp only [mX, exOf] at h; cases o <;> cases h
  | o2 o a b iha ihb =>
    intro X sc fn md hx h
    cases md with
    | ex x =>
      simp only [mX, exOf, Bool.and_eq_true] at h
      obtain ⟨wf, h⟩ := h
      split at h
      · rename_i p y z hc
        obtain ⟨q, rfl⟩ := vBin_ok hc
        simp only [Bool.and_eq_true, decide_eq_true_eq] at h
        exact Snd.val (e_bin (binO_ok h.1.1) (iha X sc fn _ hx h.1.2).1 (ihb X sc fn _ hx h.2).1 wf) rfl
      · split at h
        · rename_i y z hc
          obtain ⟨q, rfl⟩ := vIx_ok hc
          simp only [Bool.and_eq_true, decide_eq_true_eq] at h
          obtain ⟨⟨⟨rfl, h2⟩, h3⟩, h4⟩ := h
          exact Snd.val (e_ix (iha X sc fn _ hx h3).1 (ihb X sc fn _ hx h4).1 wf (plainIx_of h2)) rfl
        · split at h
          · rename_i p y z hc
            obtain ⟨q, rfl⟩ := vCmp_ok hc
            simp only [Bool.and_eq_true, decide_eq_true_eq, Bool.not_eq_true'] at h
            obtain ⟨⟨⟨h1, h2⟩, h3⟩, h4⟩ := h
            obtain ⟨o1, o2⟩ := cmpE_ok (X := X) hx.units h1
            exact ⟨e_cmp o1 (iha X sc fn _ hx h3).1 (ihb X sc fn _ hx h4).1 wf h2, fun _ => t_cmp o1 (iha X sc fn _ hx h3).1 (ihb X sc fn _ hx h4).1 wf h2 o2⟩
          · cases h
    | _ => simp only [mX, exOf] at h; cases h
  | and a b iha ihb =>
    intro X sc fn md hx h
    simp only [mX] at h
    split at h
    · rename_i es hb
      split at h
      · rename_i x r ho
        simp only [Bool.and_eq_true] at h
        obtain ⟨⟨⟨h1, h2⟩, h3⟩, h4⟩ := h
        have es' : es = x :: r ∧ r ≠ [] := by
          unfold bOps at ho
          split at ho <;> cases ho
          exact ⟨rfl, by simp⟩
        obtain ⟨rfl, hne⟩ := es'
        have a1 := iha X sc fn _ hx h2
        have key : ∀ pos, PE X (.BoolOp .And (x :: r) pos) (tE X.K nr G T.fr (.and a b)) ∧ PW X (.BoolOp .And (x :: r) pos) (tT X.K nr G (.and a b)) := fun pos => by
          have a2 := bMode_ok hne h3 (ihb X sc fn _ hx h4) pos
          match r, hne, a2 with
          | y :: r, _, a2 => exact ⟨e_and a1.1 a2.1, t_and (a1.2 h1) a2.2⟩
        cases md with
        | ex z =>
          obtain ⟨p, rfl⟩ := vBool_ok hb
          exact ⟨(key p).1, fun _ => (key p).2.pt⟩
        | bool op es => cases hb; exact key
        | _ => cases hb
      · cases h
    · cases h
  | or a b iha ihb =>
    intro X sc fn md hx h
    simp only [mX] at h
    split at h
    · rename_i es hb
      split at h
      · rename_i x r ho
        simp only [Bool.and_eq_true] at h
        obtain ⟨⟨⟨h1, h2⟩, h3⟩, h4⟩ := h
        have es' : es = x :: r ∧ r ≠ [] := by
          unfold bOps at ho
          split at ho <;> cases ho
          exact ⟨rfl, by simp⟩
        obtain ⟨rfl, hne⟩ := es'
        have a1 := iha X sc fn _ hx h2
        have key : ∀ pos, PE X (.BoolOp .Or (x :: r) pos) (tE X.K nr G T.fr (.or a b)) ∧ PW X (.BoolOp .Or (x :: r) pos) (tT X.K nr G (.or a b)) := fun pos => by
          have a2 := bMode_ok hne h3 (ihb X sc fn _ hx h4) pos
          match r, hne, a2 with
          | y :: r, _, a2 => exact ⟨e_or a1.1 a2.1, t_or (a1.2 h1) a2.2⟩
        cases md with
        | ex z =>
          obtain ⟨p, rfl⟩ := vBool_ok hb
          exact ⟨(key p).1, fun _ => (key p).2.pt⟩
        | bool op es => cases hb; exact key
        | _ => cases hb
      · cases h
    · cases h
  | ife c a b ihc iha ihb =>
    intro X sc fn md hx h
    cases md with
    | ex x =>
      simp only [mX, exOf, Option.bind_some] at h
      split at h
      · rename_i x1 y z hc
        obtain ⟨p, rfl⟩ := vIf_ok hc
        simp only [Bool.and_eq_true] at h
        exact ⟨e_ife ((ihc X sc fn _ hx h.1.1.2).2 h.1.1.1) (iha X sc fn _ hx h.1.2).1 (ihb X sc fn _ hx h.2).1, fun z => by cases z⟩
      · cases h
    | _ => simp only [mX, exOf, Option.bind_none] at h; cases h
  | isi a ts ih =>
    intro X sc fn md hx h
    cases md with
    | ex x =>
      simp only [mX, exOf, Option.bind_some] at h
      split at h
      · rename_i f x1 c hc
        obtain ⟨p, q, rfl⟩ := vCall_ok hc
        simp only [Bool.and_eq_true, decide_eq_true_eq] at h
        obtain ⟨⟨⟨⟨rfl, h2⟩, h3⟩, h4⟩, h5⟩ := h
        have a1 := ih X sc fn _ hx h4
        have g := (hx.gl h2).1
        have m := hx.blt "isinstance" (by decide)
        split at h5
        · rename_i cs ts' hv
          obtain ⟨k, p2, rfl⟩ := vTup_ok hv
          rw [Bool.and_eq_true] at h5
          obtain ⟨t, t1, t2⟩ := tys_ok hx h5.2
          exact Snd.val (e_isiT g m a1.1 t1 t2 (of_decide_eq_true h5.1) h3) rfl
        · rename_i t hv
          rw [Bool.and_eq_true] at h5
          obtain ⟨p2, rfl⟩ := vName_ok (of_decide_eq_true h5.1)
          exact Snd.val (e_isi1 g m a1.1 (ty_ok hx.blt (hx.gl h5.2).1) h3 rfl) rfl
        · cases h5
      · cases h
    | _ => simp only [mX, exOf, Option.bind_none] at h; cases h
  | sl a l hh iha ihl ihh =>
    intro X sc fn md hx h
    cases md with
    | ex x =>
      simp only [mX, exOf, Option.bind_some] at h
      split at h
      · rename_i x1 lo hi hc
        obtain ⟨p, q, rfl⟩ := vSl_ok hc
        simp only [Bool.and_eq_true] at h
        obtain ⟨⟨⟨h1, h2⟩, h3⟩, h4⟩ := h
        have bo : ∀ (e : E) (o : Option Expr), (∀ (X : L2.Cx) (sc : Scope) (fn : Str → Bool) (md : Md), HX T N G n X sc fn → mX T N e sc fn md = true → Snd X nr G T.fr e md) → bndM (mX T N e sc fn) e o = true → PO X o (tBnd X.K nr G e) := fun e o ihe hb => by
          cases o with
          | none =>
            have hb : bndE e = true := hb
            cases e <;> first | cases hb | skip
            exact b_none
          | some y =>
            simp only [bndM, Bool.and_eq_true, Bool.not_eq_true'] at hb
            exact b_some (ihe X sc fn _ hx hb.2).1 hb.1
        exact Snd.val (e_sl (iha X sc fn _ hx h2).1 (bo l lo ihl h3) (bo hh hi ihh h4) h1) rfl
      · cases h
    | _ => simp only [mX, exOf, Option.bind_none] at h; cases h
  | nob => intro X sc fn md hx h; simp only [mX] at h; cases h
  | chain o o' a b c iha ihb ihc =>
    intro X sc fn md hx h
    cases md with
    | ex x =>
      simp only [mX, exOf, Option.bind_some] at h
      split at h
      · rename_i p p' x1 y z hc
        obtain ⟨q, rfl⟩ := vChain_ok hc
        simp only [Bool.and_eq_true, decide_eq_true_eq, Bool.not_eq_true'] at h
        obtain ⟨⟨⟨⟨⟨⟨h1, h2⟩, h3⟩, h4⟩, h5⟩, h6⟩, h7⟩ := h
        obtain ⟨o1, o2⟩ := cmpE_ok (X := X) hx.units h1
        obtain ⟨o3, o4⟩ := cmpE_ok (X := X) hx.units h2
        have wf : (owned a && owned b) = true := by rw [h4.1, h4.2]; rfl
        exact ⟨e_chain o1 o3 (iha X sc fn _ hx h5).1 (ihb X sc fn _ hx h6).1 (ihc X sc fn _ hx h7).1 h3 wf o2, fun _ => t_chain o1 o3 (iha X sc fn _ hx h5).1 (ihb X sc fn _ hx h6).1 (ihc X sc fn _ hx h7).1 h3 wf o2 o4⟩
      · cases h
    | _ => simp only [mX, exOf, Option.bind_none] at h; cases h
  | comp tg src cond elt ihs ihc ihe =>
    intro X sc fn md hx h
    cases md with
    | ex x =>
      simp only [mX, exOf, Option.bind_some] at h
      split at h
      · rename_i c hc
        obtain ⟨p, rfl⟩ := vComp_ok hc
        simp only [Bool.and_eq_true, decide_eq_true_eq] at h
        obtain ⟨⟨⟨⟨⟨⟨⟨⟨h1, h2⟩, h3⟩, h4⟩, h5⟩, h6⟩, h7⟩, h8⟩, h9⟩ := h
        have ok : BlkOk X.N X.env.scope c.scope (tgOwn c.tg tg) := by
          rw [hx.hN, hx.hsc]; exact blkOk_by h3
        have hb : ∀ s H C cl fp, HX T N G n (X.blk s H c.scope (compEnvC c.scope cl C X.env) fp) (relS c.scope sc) (fnB c.scope) := fun s H C cl fp => hx.blk s H C cl fp ok.kind
        have src' : PI X c.tg c.iter (tI X.K nr G src) := by
          have s1 := ihs X sc fn _ hx h2
          unfold sMode at s1
          split at s1
          · exact s1
          · exact PE.piv s1.1
        have tst : ∀ (s : Shared) (H : Hp) (C : Addr) (cl : List (Str × Addr)) (fp : List Addr), PTs (X.blk s H c.scope (compEnvC c.scope cl C X.env) fp) c.ifs (tT X.K nr G cond) := fun s H C cl fp => by
          unfold condM at h6
          split at h6
          · rename_i he
            rw [he]
            cases cond <;> first | cases h6 | skip
            rename_i d
            cases d <;> first | cases h6 | skip
            rename_i b
            cases b <;> first | cases h6 | skip
            exact pts0 (X := X.blk s H c.scope (compEnvC c.scope cl C X.env) fp)
          · rename_i y he
            rw [he]
            rw [Bool.and_eq_true] at h6
            exact pts_one ((ihc _ _ _ _ (hb s H C cl fp) h6.2).2 h6.1)
          · cases h6
        have g := PE.up (PE.weak (pe_lc (pos := p) hx.calm hx.nd src' ok (fun s H C cl fp => pg_tg (X := X.blk s H c.scope (compEnvC c.scope cl C X.env) fp) hx.calm hx.nd (by
            have := hb s H C cl fp
            rw [this.hN, this.hsc, this.hfn]; exact h5)) tst (fun s H C cl fp => (ihe _ _ _ _ (hb s H C cl fp) h7).1) (noSet_ok h1)) (fun σ H Q q => by
          rw [h4]
          exact comp_weak (fr := T.fr) h8 h9 σ H Q q))
        exact Snd.val g rfl
      · cases h
    | _ => simp only [mX, exOf, Option.bind_none] at h; cases h
  | rng1 a ih =>
    intro X sc fn md hx h
    cases md with
    | src tg x =>
      simp only [mX] at h
      split at h
      · rename_i f y hc
        obtain ⟨p, q, rfl⟩ := vCall_ok hc
        simp only [Bool.and_eq_true, decide_eq_true_eq] at h
        obtain ⟨⟨⟨rfl, h2⟩, h3⟩, h4⟩ := h
        exact s_rng1 (hx.gl h2).1 (hx.blt _ (by decide)) (ih X sc fn _ hx h4).1 h3
      · cases h
    | _ => simp only [mX] at h; cases h
  | rng2 a b iha ihb =>
    intro X sc fn md hx h
    cases md with
    | src tg x =>
      simp only [mX] at h
      split at h
      · rename_i f y z hc
        obtain ⟨p, q, rfl⟩ := vCall_ok hc
        simp only [Bool.and_eq_true, decide_eq_true_eq] at h
        obtain ⟨⟨⟨⟨⟨⟨rfl, h2⟩, h3⟩, h4⟩, h5⟩, h6⟩, h7⟩ := h
        exact s_rng2 (hx.gl h2).1 (hx.blt _ (by decide)) (iha X sc fn _ hx h6).1 (ihb X sc fn _ hx h7).1 h3 h4 h5
      · cases h
    | _ => simp only [mX] at h; cases h
  | enum a ih =>
    intro X sc fn md hx h
    cases md with
    | src tg x =>
      simp only [mX, Bool.and_eq_true] at h
      obtain ⟨h0, h⟩ := h
      obtain ⟨es, k, p2, rfl⟩ := isTupE_ok h0
      split at h
      · rename_i f y hc
        obtain ⟨p, q, rfl⟩ := vCall_ok hc
        simp only [Bool.and_eq_true, decide_eq_true_eq] at h
        obtain ⟨⟨⟨⟨rfl, h2⟩, h3⟩, h4⟩, h5⟩ := h
        exact s_enum (hx.gl h2).1 (hx.blt _ (by decide)) (ih X sc fn _ hx h5).1 h3 h4
      · cases h
    | _ => simp only [mX] at h; cases h
  | zip a b iha ihb =>
    intro X sc fn md hx h
    cases md with
    | src tg x =>
      simp only [mX, Bool.and_eq_true] at h
      obtain ⟨h0, h⟩ := h
      obtain ⟨es, k, p2, rfl⟩ := isTupE_ok h0
      split at h
      · rename_i f y z hc
        obtain ⟨p, q, rfl⟩ := vCall_ok hc
        simp only [Bool.and_eq_true, decide_eq_true_eq] at h
        obtain ⟨⟨⟨⟨⟨⟨rfl, h2⟩, h3⟩, h4⟩, h5⟩, h6⟩, h7⟩ := h
        exact s_zip (hx.gl h2).1 (hx.blt _ (by decide)) (iha X sc fn _ hx h6).1 (ihb X sc fn _ hx h7).1 h3 h4 (by rw [h5.1, h5.2]; rfl)
      · cases h
    | _ => simp only [mX] at h; cases h
  | call f refs r ih =>
    intro X sc fn md hx h
    cases md with
    | ex x =>
      simp only [mX, exOf, Option.bind_some] at h
      have view : ∀ {z es}, callOf T sc x = some (z, es) → ∃ g p q, x = .Call (.Name g p) es [] q ∧ isG sc g = true ∧ es.all noStar = true ∧ T.fn.lookup g = some z := fun {z es} hv => by
        unfold callOf at hv
        split at hv
        · rename_i g es' hc
          obtain ⟨p, q, rfl⟩ := vCall_ok hc
          split at hv
          · rename_i hg
            rw [Bool.and_eq_true] at hg
            cases hl : T.fn.lookup g with
            | none => rw [hl] at hv; cases hv
            | some z' => rw [hl] at hv; cases hv; exact ⟨g, p, q, rfl, hg.1, hg.2, hl⟩
          · cases hv
        · cases hv
      split at h
      · rename_i g ps es hc
        obtain ⟨gn, p, q, rfl, v1, v2, v3⟩ := view hc
        simp only [Bool.and_eq_true, decide_eq_true_eq] at h
        obtain ⟨⟨⟨rfl, rfl⟩, h3⟩, h4⟩ := h
        have F := hx.fns gn g 0 ps v3
        obtain ⟨g1, g2⟩ := hx.gl v1
        have a1 := ih X sc fn _ hx h4
        cases es with
        | nil =>
          have er : r = .nil := by
            cases r <;> first | rfl | skip
            all_goals (first | (have := a1.2.1; cases this) | (have := a1.2.2.1; simp only [rowLen, List.length_nil] at this; omega))
          subst er
          exact Snd.val (e_call0 F hx.room g1 g2 (by rw [← h3]; rfl)) rfl
        | cons y es =>
          rw [List.all_cons, Bool.and_eq_true] at v2
          exact Snd.val (e_call F hx.room g1 g2 a1.1 v2.1 v2.2 a1.2.1 (by rw [a1.2.2.1, h3])) rfl
      · rename_i g ps y es hc
        obtain ⟨gn, p, q, rfl, v1, v2, v3⟩ := view hc
        split at h
        · rename_i i yn hn
          obtain ⟨py, rfl⟩ := vName_ok hn
          simp only [Bool.and_eq_true, decide_eq_true_eq, Bool.not_eq_true'] at h
          obtain ⟨⟨⟨⟨rfl, h2⟩, h3⟩, h4⟩, h5⟩ := h
          have F := hx.fns gn g 1 ps v3
          obtain ⟨g1, g2⟩ := hx.gl v1
          have a1 := ih X sc fn _ hx h5
          rw [List.all_cons, Bool.and_eq_true] at v2
          exact Snd.val (e_callr F hx.room g1 g2 (hx.var h2) a1.1 v2.2 a1.2.1 h4 (by rw [a1.2.2.1]; exact h3)) rfl
        · cases h
      · cases h
    | _ => simp only [mX, exOf, Option.bind_none] at h; cases h
  | callk f perm r ih =>
    intro X sc fn md hx h
    cases md with
    | ex x =>
      simp only [mX, exOf, Option.bind_some] at h
      split at h
      · rename_i c hc
        obtain ⟨p, q, rfl, v1, v2, v3, v4, v5⟩ := kcallOf_ok hc
        simp only [Bool.and_eq_true, decide_eq_true_eq, Bool.not_eq_true'] at h
        obtain ⟨⟨⟨⟨rfl, rfl⟩, h3⟩, h4⟩, h5⟩ := h
        obtain ⟨g1, g2⟩ := hx.gl v1
        have a1 := ih X sc fn _ hx h5
        have nm := kw_names (env := X.env) (pos := q) (kws := c.kws)
        have e1 : (backToKw q (keywordEach c.kws X.env)).all (·.1.isSome) = true := by
          have : (backToKw q (keywordEach c.kws X.env)).all (·.1.isSome) = ((backToKw q (keywordEach c.kws X.env)).map (·.1)).all (·.isSome) := by rw [List.all_map]; rfl
          rw [this, nm, List.all_map]; exact v2
        have e2 : (backToKw q (keywordEach c.kws X.env)).filterMap (·.1) = c.ks := by
          have : (backToKw q (keywordEach c.kws X.env)).filterMap (·.1) = ((backToKw q (keywordEach c.kws X.env)).map (·.1)).filterMap id := by rw [List.filterMap_map]; rfl
          rw [this, nm, List.filterMap_map, ← v3]; rfl
        have e3 : (backToKw q (keywordEach c.kws X.env)).any (·.1.isNone) = false := by
          rw [List.any_eq_false]
          intro z hz
          have := List.all_eq_true.mp e1 z hz
          cases hzz : z.1 with
          | none => rw [hzz] at this; cases this
          | some _ => simp
        have len : rowLen r = c.ks.length := by
          rw [a1.2.2.1, ← v3, KC.vals, List.length_map]
          have : ∀ l : List Keyword, l.all (fun k => k.arg.isSome) = true → l.length = (l.filterMap (·.arg)).length := fun l => by
            induction l with
            | nil => intro _; rfl
            | cons k l ihl =>
              intro hl
              rw [List.all_cons, Bool.and_eq_true] at hl
              obtain ⟨n0, hn⟩ := Option.isSome_iff_exists.mp hl.1
              rw [List.filterMap_cons, hn, List.length_cons, List.length_cons, ihl hl.2]
          exact this _ v2
        exact Snd.val (e_callk (hx.kws _ _ _ _ _ v5 v4) hx.room g1 g2 (a1.2.2.2.2 c.kws rfl) e1 e2 e3 a1.2.1 h4 h3 len) rfl
      · cases h
    | _ => simp only [mX, exOf, Option.bind_none] at h; cases h
  | callt f a r iha ihr =>
    intro X sc fn md hx h
    cases md with
    | ex x =>
      simp only [mX, exOf, Option.bind_some] at h
      split at h
      · rename_i g ps y es hc
        unfold callOf at hc
        split at hc
        · rename_i gn es' hv
          obtain ⟨p, q, rfl⟩ := vCall_ok hv
          split at hc
          · rename_i hg
            rw [Bool.and_eq_true] at hg
            cases hl : T.fn.lookup gn with
            | none => rw [hl] at hc; cases hc
            | some z' =>
              rw [hl] at hc; cases hc
              simp only [Bool.and_eq_true, decide_eq_true_eq, Bool.not_eq_true'] at h
              obtain ⟨⟨⟨⟨⟨rfl, h2⟩, h3⟩, h4⟩, h5⟩, h6⟩ := h
              have F := hx.fns gn g 1 ps hl
              obtain ⟨g1, g2⟩ := hx.gl hg.1
              have a1 := iha X sc fn _ hx h5
              have a2 := ihr X sc fn _ hx h6
              have v2 := hg.2
              rw [List.all_cons, Bool.and_eq_true] at v2
              exact Snd.val (e_callt F hx.room g1 g2 a1.1 h4 a2.1 v2.1 v2.2 a2.2.1 h3 (by rw [a2.2.2.1]; exact h2)) rfl
          · cases hc
        · cases hc
      · cases h
    | _ => simp only [mX, exOf, Option.bind_none] at h; cases h
  | rep a b iha ihb =>
    intro X sc fn md hx h
    cases md with
    | ex x =>
      simp only [mX, exOf, Option.bind_some] at h
      split at h
      · rename_i p y z hc
        obtain ⟨q, rfl⟩ := vBin_ok hc
        simp only [Bool.and_eq_true, decide_eq_true_eq] at h
        obtain ⟨⟨⟨⟨rfl, h2⟩, h3⟩, h4⟩, h5⟩ := h
        exact Snd.val (e_rep (iha X sc fn _ hx h4).1 (ihb X sc fn _ hx h5).1 h2 h3) rfl
      · cases h
    | _ => simp only [mX, exOf, Option.bind_none] at h; cases h
end LP
set_option autoImplicit false
set_option linter.all false
set_option maxRecDepth 100000
set_option maxHeartbeats 2000000
/-! LPS: statements matched. -/
namespace LP
open PySem PySem.Spec PyProof.Rows L2
/-- no comprehension -/
def noComp : Expr → Bool
  | .ListComp .. => false
  | .SetComp .. => false
  | .DictComp .. => false
  | _ => true
theorem noComp_ok {x : Expr} {t : Option Expr} {l : Nat} {env : Env} (h : noComp x = true) : swapsWith x t l env = pure false := by
  cases x <;> first | rfl | cases h
theorem sole_tup {x : Expr} {es : List Expr} {k : Nat} {p : Pos} {l : Nat} {env : Env} : swapsWithSole [.Tuple es k p] x l env = pure false := by
  cases x <;> rfl
theorem sole_sub {x a b : Expr} {p : Pos} {l : Nat} {env : Env} : swapsWithSole [.Subscript a b p] x l env = pure false := by
  cases x <;> rfl
theorem stores_sub {x a b : Expr} {p : Pos} {env : Env} : swappedStores [.Subscript a b p] x env = pure none := by
  cases x <;> rfl
theorem stores_tup {x : Expr} {es : List Expr} {k : Nat} {p : Pos} {env : Env} (h : isTupE x = false) : swappedStores [.Tuple es k p] x env = pure none := by
  cases x <;> first | rfl | cases h
theorem assign_sub {x : Str} {px p2 : Pos} {ix : Expr} {env : Env} (h : noSl ix = true) : ∀ v, assign (.Subscript (.Name x px) ix p2) env v = (do
      let ov ← holding [v] (eval (.Name x px) env)
      let iv ← holding [v, ov] (eval ix env)
      standAt p2
      holding [v, ov, iv] (setItem ov iv v)
      release [v, ov, iv] []) := fun v => by
  cases ix <;> first | rfl | cases h
theorem blockKind_fn {env : Env} (h : env.scope.kind = .function) : env.blockKind = .function := by unfold Env.blockKind; rw [h]; rfl
/-- name = [..] is a store within the comprehension's own code -/
def swC (sc : Scope) (x : Str) (p : Pos) : Expr → Bool
  | .ListComp _ _ scope pos => decide (sc.names.lookup x = some .local) && (p.line == pos.line) && !(scope.names.any fun (n, k) => n == x && (k == .local || k == .cell))
  | _ => false
theorem swC_false {env : Env} {sc : Scope} {x : Str} {p : Pos} {v : Expr} {l : Nat} (hs : env.scope = sc) (hl : ∃ a b c d, v = .ListComp a b c d) (h : swC sc x p v = false) : swapsWith v (some (.Name x p)) l env = pure false := by
  obtain ⟨a, b, c, d, rfl⟩ := hl
  subst hs
  have e : swapsWith (.ListComp a b c d) (some (.Name x p)) l env = pure (env.blockKind == .function && env.kindOf x == some .local && p.line == d.line && !(c.names.any fun (n, k) => n == x && (k == .local || k == .cell))) := rfl
  rw [e]
  congr 1
  simp only [swC] at h
  have e2 : (env.kindOf x == some .local) = decide (env.scope.names.lookup x = some .local) := by
    show (env.scope.names.lookup x == some .local) = _
    rw [Bool.eq_iff_iff, beq_iff_eq, decide_eq_true_eq]
  rw [e2, Bool.and_assoc, Bool.and_assoc, ← Bool.and_assoc (decide _), h, Bool.and_false]
def nmLine (sc : Scope) (line : Nat) : Expr → Option Str
  | .Name id pos => if sc.names.lookup id == some .local && pos.line == line then some id else none
  | _ => none
def isSt : Expr → Bool
  | .Starred .. => true
  | _ => false
def swP (sc : Scope) (ts vs : List Expr) : Option (Option (List Str)) :=
  if (!(ts.length == 2 || ts.length == 3) || vs.length != ts.length) = true then some none
  else if vs.any isSt = true then some none
  else
    let names := ts.filterMap (nmLine sc ((ts.head?.map (·.pos.line)).getD 0))
    if (names.length != ts.length || names.eraseDups.length != names.length) = true then some none
    else if vs.all (foldedForSure 8) = true then some none
    else if vs.all (constantsAlone 8) = true then none
    else some (some names)
theorem swP_ok {env : Env} {sc : Scope} {ts vs : List Expr} {k k2 : Nat} {p p2 : Pos} {r : Option (List Str)} (hk : env.scope.kind = .function) (hs : env.scope = sc) (h : swP sc ts vs = some r) : swappedStores [.Tuple ts k p] (.Tuple vs k2 p2) env = pure r := by
  subst hs
  have hb := blockKind_fn hk
  have key : swappedStores [.Tuple ts k p] (.Tuple vs k2 p2) env = (if (!(ts.length == 2 || ts.length == 3) || vs.length != ts.length || env.blockKind != .function) = true then pure none else if vs.any isSt = true then pure none else
      if ((ts.filterMap (nmLine env.scope ((ts.head?.map (·.pos.line)).getD 0))).length != ts.length || (ts.filterMap (nmLine env.scope ((ts.head?.map (·.pos.line)).getD 0))).eraseDups.length != (ts.filterMap (nmLine env.scope ((ts.head?.map (·.pos.line)).getD 0))).length) = true then pure none else
      if vs.all (foldedForSure 8) = true then pure none else
      if vs.all (constantsAlone 8) = true then (do unsupported "assign.tuple-of-constant-expressions:order-of-the-stores"; pure (some (ts.filterMap (nmLine env.scope ((ts.head?.map (·.pos.line)).getD 0))))) else
      pure (some (ts.filterMap (nmLine env.scope ((ts.head?.map (·.pos.line)).getD 0))))) := by rfl
  rw [key, hb]
  simp only [bne_self_eq_false, Bool.or_false]
  unfold swP at h
  by_cases c1 : (!(ts.length == 2 || ts.length == 3) || vs.length != ts.length) = true
  · rw [if_pos c1] at h ⊢
    cases h; rfl
  · rw [if_neg c1] at h ⊢
    by_cases c2 : vs.any isSt = true
    · rw [if_pos c2] at h
      rw [if_pos c2]
      cases h; rfl
    · rw [if_neg c2] at h
      rw [if_neg c2]
      simp only at h
      by_cases c3 : ((ts.filterMap (nmLine env.scope ((ts.head?.map (·.pos.line)).getD 0))).length != ts.length || (ts.filterMap (nmLine env.scope ((ts.head?.map (·.pos.line)).getD 0))).eraseDups.length != (ts.filterMap (nmLine env.scope ((ts.head?.map (·.pos.line)).getD 0))).length) = true
      · rw [if_pos c3] at h ⊢
        cases h; rfl
      · rw [if_neg c3] at h ⊢
        by_cases c4 : vs.all (foldedForSure 8) = true
        · rw [if_pos c4] at h ⊢
          cases h; rfl
        · rw [if_neg c4] at h ⊢
          by_cases c5 : vs.all (constantsAlone 8) = true
          · rw [if_pos c5] at h; cases h
          · rw [if_neg c5] at h ⊢
            cases h; rfl
end LP
set_option autoImplicit false
set_option linter.all false
set_option maxRecDepth 100000
set_option maxHeartbeats 2000000
/-! LPS2: the statements' matcher, sound. -/
namespace LP
open PySem PySem.Spec PyProof.Rows L2
inductive Ms where
  | one (st : Stmt) | many (sts : List Stmt) | no
def isDoc : Stmt → Bool
  | .Expr (.Constant (.str _) _ _) _ => true
  | .Pass _ => true
  | _ => false
def strip : List Stmt → List Stmt
  | st :: r => if isDoc st then strip r else st :: r
  | [] => []
def isMany : S → Bool
  | .seq _ _ => true
  | .nop => true
  | _ => false
def mMode (s : S) (sts : List Stmt) : Ms := if isMany s then .many sts else match strip sts with
  | [st] => .one st
  | _ => .no
def isFrz : S → Bool
  | .frz _ => true
  | _ => false
structure VA where
  x : Str
  p : Pos
  v : Expr
def vAsg : Stmt → Option VA
  | .Assign [.Name x p] v _ => some ⟨x, p, v⟩
  | _ => none
theorem vAsg_ok {st : Stmt} {c : VA} (h : vAsg st = some c) : ∃ q, st = .Assign [.Name c.x c.p] c.v q := by
  unfold vAsg at h; split at h <;> cases h; exact ⟨_, rfl⟩
def vAsgT : Stmt → Option (List Expr × Expr)
  | .Assign [.Tuple ts _ _] v _ => some (ts, v)
  | _ => none
theorem vAsgT_ok {st : Stmt} {c : List Expr × Expr} (h : vAsgT st = some c) : ∃ k p q, st = .Assign [.Tuple c.1 k p] c.2 q := by
  unfold vAsgT at h; split at h <;> cases h; exact ⟨_, _, _, rfl⟩
def vApp : Stmt → Option (Str × Expr)
  | .Expr (.Call (.Attribute (.Name x _) a ap) [v] [] cp) _ => if decide (a = ("append" : Str)) && (ap.endLine == cp.line) then some (x, v) else none
  | _ => none
theorem vApp_ok {st : Stmt} {c : Str × Expr} (h : vApp st = some c) : ∃ px ap cp q, st = .Expr (.Call (.Attribute (.Name c.1 px) "append" ap) [c.2] [] cp) q ∧ (ap.endLine == cp.line) = true := by
  unfold vApp at h
  split at h
  · split at h
    · rename_i hk
      rw [Bool.and_eq_true, decide_eq_true_eq] at hk
      obtain ⟨rfl, h2⟩ := hk
      cases h
      exact ⟨_, _, _, _, rfl, h2⟩
    · cases h
  · cases h
def vSetx : Stmt → Option (Str × Expr × Expr)
  | .Assign [.Subscript (.Name x _) ix _] v _ => some (x, ix, v)
  | _ => none
theorem vSetx_ok {st : Stmt} {c : Str × Expr × Expr} (h : vSetx st = some c) : ∃ px p2 q, st = .Assign [.Subscript (.Name c.1 px) c.2.1 p2] c.2.2 q := by
  unfold vSetx at h; split at h <;> cases h; exact ⟨_, _, _, rfl⟩
def vRet : Stmt → Option Expr
  | .Return (some x) _ => some x
  | _ => none
theorem vRet_ok {st : Stmt} {x : Expr} (h : vRet st = some x) : ∃ q, st = .Return (some x) q := by
  unfold vRet at h; split at h <;> cases h; exact ⟨_, rfl⟩
def vIfS : Stmt → Option (Expr × List Stmt × List Stmt)
  | .If c a b _ => some (c, a, b)
  | _ => none
theorem vIfS_ok {st : Stmt} {c : Expr × List Stmt × List Stmt} (h : vIfS st = some c) : ∃ q, st = .If c.1 c.2.1 c.2.2 q := by
  unfold vIfS at h; split at h <;> cases h; exact ⟨_, rfl⟩
def vFor : Stmt → Option (Expr × Expr × List Stmt)
  | .For t i b [] _ => some (t, i, b)
  | _ => none
theorem vFor_ok {st : Stmt} {c : Expr × Expr × List Stmt} (h : vFor st = some c) : ∃ q, st = .For c.1 c.2.1 c.2.2 [] q := by
  unfold vFor at h; split at h <;> cases h; exact ⟨_, rfl⟩
def vExp : Stmt → Option Expr
  | .Expr x _ => some x
  | _ => none
theorem vExp_ok {st : Stmt} {x : Expr} (h : vExp st = some x) : ∃ q, st = .Expr x q := by
  unfold vExp at h; split at h <;> cases h; exact ⟨_, rfl⟩
/-- the store of a name: what the value is decides how -/
def isCompE : E → Bool
  | .comp _ _ _ _ => true
  | _ => false
def stOk (N : List Str) (sc : Scope) (fn : Str → Bool) (i : Nat) (c : VA) (e : E) : Bool :=
  decide (N[i]? = some c.x) && (decide (sc.names.lookup c.x = some .local) || (decide (sc.names.lookup c.x = some .cell) && fn c.x)) && (noComp c.v || ((vComp c.v).isSome && isCompE e))
def stOf : Ms → Option Stmt
  | .one st => some st
  | _ => none
def par2 (N : List Str) (sc : Scope) : List Expr → List Nat → Bool
  | [.Name x _, .Name y _], [i, j] => decide (N[i]? = some x) && decide (N[j]? = some y) && decide (i ≠ j) && decide (sc.names.lookup x = some .local) && decide (sc.names.lookup y = some .local)
  | [.Name x _, .Name y _, .Name z _], [i, j, l] => decide (N[i]? = some x) && decide (N[j]? = some y) && decide (N[l]? = some z) && decide (i ≠ j) && decide (i ≠ l) && decide (j ≠ l) && decide (sc.names.lookup x = some .local) && decide (sc.names.lookup y = some .local) && decide (sc.names.lookup z = some .local)
  | _, _ => false
/-- nw: new lists are handed out -/
def mS (T : Tab) (N : List Str) (nw : Bool) : S → Scope → (Str → Bool) → Ms → Bool
  | .nop, _, _, md => (match md with
    | .many sts => (strip sts).isEmpty
    | _ => false)
  | .seq a b, sc, fn, md => (match md with
    | .many sts => if isFrz a then mS T N nw b sc fn (mMode b sts) else (match strip sts with
      | st :: rest => mS T N nw a sc fn (.one st) && mS T N nw b sc fn (mMode b rest)
      | [] => false)
    | _ => false)
  | .ret e, sc, fn, md => (match (stOf md).bind vRet with
    | some x => owned e && (!nw || fresh T.fr e) && mX T N e sc fn (.ex x)
    | none => false)
  | .retc i, sc, fn, md => (match ((stOf md).bind vRet).bind vName with
    | some x => isV N sc x i
    | none => false)
  | .retN, sc, fn, md => (match stOf md with
    | some (.Return none _) => true
    | _ => false)
  | .asg i e, sc, fn, md => (match (stOf md).bind vAsg with
    | some c => owned e && stOk N sc fn i c e && mX T N e sc fn (.ex c.v)
    | none => false)
  | .cel i e, sc, fn, md => (match (stOf md).bind vAsg with
    | some c => fresh T.fr e && stOk N sc fn i c e && mX T N e sc fn (.ex c.v)
    | none => false)
  | .par is cels r, sc, fn, md => (match (stOf md).bind vAsgT with
    | some (ts, v) => (match vTup v with
      | some vs => decide (cels = []) && !lends r && mX T N r sc fn (.row vs) && decide (vs.length ≤ 1000) && (match swP sc ts vs with
        | some none => isNms N sc fn ts is
        | some (some _) => par2 N sc ts is && decide (vs.length = is.length)
        | none => false)
      | none => false)
    | none => false)
  | .unp is e, sc, fn, md => (match (stOf md).bind vAsgT with
    | some (ts, v) => !isTupE v && owned e && isNms N sc fn ts is && mX T N e sc fn (.ex v)
    | none => false)
  | .ifs c a b, sc, fn, md => (match (stOf md).bind vIfS with
    | some (x, s1, s2) => notIf x && mX T N c sc fn (.ex x) && mS T N nw a sc fn (mMode a s1) && mS T N nw b sc fn (mMode b s2)
    | none => false)
  | .fors tg src body, sc, fn, md => (match (stOf md).bind vFor with
    | some (t, i, b) => owned src && noSet i && mX T N src sc fn (sMode src t i) && mTg N sc fn t tg && mS T N nw body sc fn (mMode body b)
    | none => false)
  | .expr e, sc, fn, md => (match (stOf md).bind vExp with
    | some x => noComp x && mX T N e sc fn (.ex x)
    | none => false)
  | .app i e, sc, fn, md => (match (stOf md).bind vApp with
    | some (x, v) => isV N sc x i && owned e && noStar v && mX T N e sc fn (.ex v)
    | none => false)
  | .ext _ _, _, _, _ => false
  | .setx i ix e, sc, fn, md => (match (stOf md).bind vSetx with
    | some (x, y, v) => isV N sc x i && owned e && noSl y && mX T N ix sc fn (.ex y) && mX T N e sc fn (.ex v)
    | none => false)
  | .brk, _, _, md => (match stOf md with
    | some (.Break _) => true
    | _ => false)
  | .cont, _, _, md => (match stOf md with
    | some (.Continue _) => true
    | _ => false)
  | .frz _, _, _, _ => false
def SndS (X : L2.Cx) (nr : Nat) (G : Gx) (nw : Bool) (s : S) : Ms → Prop
  | .one st => PS X st (tS X.K nr G nw s)
  | .many sts => PSs X sts (tS X.K nr G nw s)
  | .no => False
section
variable {T : Tab} {N : List Str} {G : Gx} {n nr : Nat} {nw : Bool} {X : L2.Cx} {sc : Scope} {fn : Str → Bool}
theorem strip_ok {s : S} : ∀ {sts : List Stmt}, PSs X (strip sts) (tS X.K nr G nw s) → PSs X sts (tS X.K nr G nw s)
  | [], h => h
  | st :: r, h => by
    unfold strip at h
    split at h
    · rename_i hd
      unfold isDoc at hd
      split at hd
      · exact s_skip ps_doc (strip_ok h)
      · exact s_skip ps_pass (strip_ok h)
      · cases hd
    · exact h
theorem mMode_ok {s : S} {sts : List Stmt} (h : SndS X nr G nw s (mMode s sts)) : PSs X sts (tS X.K nr G nw s) := by
  unfold mMode at h
  split at h
  · exact h
  · split at h
    · rename_i st e
      exact strip_ok (by rw [e]; exact s_one h)
    · exact h.elim
/-- the parts of a comprehension -/
theorem comp_parts {tg : Tg} {src cond elt : E} {c : VC} {x : Expr} (hx : HX T N G n X sc fn) (hc : vComp x = some c) (h : mX T N (.comp tg src cond elt) sc fn (.ex x) = true) :
    noSet c.iter = true ∧ BlkOk X.N X.env.scope c.scope (tgOwn c.tg tg) ∧ (tgOwn c.tg tg).map (·.2) = tgIx tg ∧ PI X c.tg c.iter (tI X.K nr G src) ∧
    (∀ (s : Shared) (H : Hp) (C : Addr) (cl : List (Str × Addr)) (fp : List Addr), PG (X.blk s H c.scope (compEnvC c.scope cl C X.env) fp) c.tg (tG X.K tg)) ∧
    (∀ (s : Shared) (H : Hp) (C : Addr) (cl : List (Str × Addr)) (fp : List Addr), PTs (X.blk s H c.scope (compEnvC c.scope cl C X.env) fp) c.ifs (tT X.K nr G cond)) ∧
    (∀ (s : Shared) (H : Hp) (C : Addr) (cl : List (Str × Addr)) (fp : List Addr), PE (X.blk s H c.scope (compEnvC c.scope cl C X.env) fp) c.elt (tE X.K nr G T.fr elt)) ∧
    (owned src || (quiet cond && quiet elt)) = true ∧ owned elt = true := by
  simp only [mX, exOf, Option.bind_some, hc] at h
  simp only [Bool.and_eq_true, decide_eq_true_eq] at h
  obtain ⟨⟨⟨⟨⟨⟨⟨⟨h1, h2⟩, h3⟩, h4⟩, h5⟩, h6⟩, h7⟩, h8⟩, h9⟩ := h
  have ok : BlkOk X.N X.env.scope c.scope (tgOwn c.tg tg) := by
    rw [hx.hN, hx.hsc]; exact blkOk_by h3
  have hb : ∀ s H C cl fp, HX T N G n (X.blk s H c.scope (compEnvC c.scope cl C X.env) fp) (relS c.scope sc) (fnB c.scope) := fun s H C cl fp => hx.blk s H C cl fp ok.kind
  refine ⟨h1, ok, h4, ?_, fun s H C cl fp => ?_, fun s H C cl fp => ?_, fun s H C cl fp => (mX_ok elt _ _ _ _ (hb s H C cl fp) h7).1, h8, h9⟩
  · have s1 := mX_ok (nr := nr) src X sc fn _ hx h2
    unfold sMode at s1
    split at s1
    · exact s1
    · exact PE.piv s1.1
  · exact pg_tg (X := X.blk s H c.scope (compEnvC c.scope cl C X.env) fp) hx.calm hx.nd (by
      have := hb s H C cl fp
      rw [this.hN, this.hsc, this.hfn]; exact h5)
  · unfold condM at h6
    split at h6
    · rename_i he
      rw [he]
      cases cond <;> first | cases h6 | skip
      rename_i d
      cases d <;> first | cases h6 | skip
      rename_i b
      cases b <;> first | cases h6 | skip
      exact pts0 (X := X.blk s H c.scope (compEnvC c.scope cl C X.env) fp)
    · rename_i y he
      rw [he]
      rw [Bool.and_eq_true] at h6
      exact pts_one ((mX_ok cond _ _ _ _ (hb s H C cl fp) h6.2).2 h6.1)
    · cases h6
/-- name = value, in all its forms -/
theorem store_ok' {i : Nat} {c : VA} {e : E} {q : Pos} {t : TS} (hx : HX T N G n X sc fn) (hs : stOk N sc fn i c e = true) (h : mX T N e sc fn (.ex c.v) = true)
    (w0 : ∀ Dn σ H, t Dn σ H → tAsg (tE0 X.K nr G T.fr e) (gName i) Dn σ H) : PS X (.Assign [.Name c.x c.p] c.v q) t := by
  simp only [stOk, Bool.and_eq_true, decide_eq_true_eq] at hs
  obtain ⟨⟨h1, h2⟩, h3⟩ := hs
  obtain ⟨l1, l2⟩ := loc_of h2
  have hi : X.N[i]? = some c.x := by rw [hx.hN]; exact h1
  have l1' : Loc X.env.scope c.x := by rw [hx.hsc]; exact l1
  have l2' : X.fn c.x = true ∨ X.env.scope.names.lookup c.x = some .local := by rw [hx.hsc, hx.hfn]; exact l2
  have pe := (mX_ok (nr := nr) e X sc fn _ hx h).1
  have w : ∀ Dn σ H, t Dn σ H → tAsg (tE X.K nr G T.fr e) (gName i) Dn σ H := fun Dn σ H z => by
    obtain ⟨P, W, ps, vs, cs, d, cs', R, ev, q⟩ := w0 Dn σ H z
    exact ⟨P, W, ps, vs, cs, d, cs', R, ev, fun x H' p => q x H' p.toPst0⟩
  by_cases hsw : swC sc c.x c.p c.v = true
  · -- a comprehension on the name's line
    cases hv : vComp c.v with
    | none =>
      rw [hv] at h3
      simp only [Option.isSome_none, Bool.false_and, Bool.or_false] at h3
      exfalso
      obtain ⟨cx, cp, cv⟩ := c
      cases cv <;> first | cases hsw | cases h3
    | some vc =>
      obtain ⟨p, ev⟩ := vComp_ok hv
      have hsw' := hsw
      rw [ev] at hsw'
      simp only [swC, Bool.and_eq_true, decide_eq_true_eq, Bool.not_eq_true'] at hsw'
      have isc : ∃ tg src cond elt, e = .comp tg src cond elt := by
        rw [ev] at h3
        simp only [noComp, Bool.false_or, Bool.and_eq_true] at h3
        have h3 := h3.2
        cases e <;> first | cases h3 | skip
        exact ⟨_, _, _, _, rfl⟩
      obtain ⟨tg, src, cond, elt, rfl⟩ := isc
      obtain ⟨k1, k2, k3, k4, k5, k6, k7, k8, k9⟩ := comp_parts (nr := nr) hx hv h
      have hl : X.env.scope.names.lookup c.x = some .local := by rw [hx.hsc]; exact hsw'.1.1
      rw [ev]
      refine PS.weak (ps_setLc (pos := p) (spos := q) hx.calm hx.nd hi hl (sw_true (by rw [hx.hsc]; exact hx.kind) hl hsw'.1.2 hsw'.2) k4 k2 k5 k6 k7 (noSet_ok k1)) fun Dn σ H z => ?_
      have z0 := w0 Dn σ H z
      show tLc _ _ _ _ _ σ H _
      rw [k3]
      exact comp_weak (fr := T.fr) k8 k9 σ H _ z0
  · have hsw : swC sc c.x c.p c.v = false := by simpa using hsw
    refine PS.weak (ps_set (pos := q) (pos' := c.p) hx.nd hi l1' pe ?_ l2') w
    rw [Bool.or_eq_true] at h3
    rcases h3 with h3 | h3
    · exact noComp_ok h3
    · rw [Bool.and_eq_true] at h3
      obtain ⟨vc, hv⟩ := Option.isSome_iff_exists.mp h3.1
      obtain ⟨p, ev⟩ := vComp_ok hv
      exact swC_false hx.hsc ⟨_, _, _, _, ev⟩ hsw
theorem mS_ok : ∀ (s : S) (md : Ms), HX T N G n X sc fn → PassesOwn (model X.prog X.w) X.A X.env X.xe → mS T N nw s sc fn md = true → SndS X nr G nw s md := by
  intro s
  induction s with
  | nop =>
    intro md hx hp h
    cases md with
    | many sts =>
      simp only [mS] at h
      refine strip_ok ?_
      rw [List.isEmpty_iff.mp h]
      exact s_nil
    | _ => simp only [mS] at h; cases h
  | seq a b iha ihb =>
    intro md hx hp h
    cases md with
    | many sts =>
      simp only [mS] at h
      split at h
      · rename_i hf
        cases a <;> first | cases hf | skip
        exact s_frz (mMode_ok (ihb _ hx hp h))
      · split at h
        · rename_i st rest e
          rw [Bool.and_eq_true] at h
          refine strip_ok ?_
          rw [e]
          exact s_cons (iha _ hx hp h.1) (mMode_ok (ihb _ hx hp h.2))
        · cases h
    | _ => simp only [mS] at h; cases h
  | ret e =>
    intro md hx hp h
    cases md with
    | one st =>
      simp only [mS, stOf, Option.bind_some] at h
      split at h
      · rename_i x hv
        obtain ⟨q, rfl⟩ := vRet_ok hv
        simp only [Bool.and_eq_true, Bool.or_eq_true, Bool.not_eq_true'] at h
        refine s_ret (mX_ok e X sc fn _ hx h.2).1 h.1.1 fun z => ?_
        rcases h.1.2 with y | y
        · rw [z] at y; cases y
        · exact y
      · cases h
    | _ => simp only [mS, stOf, Option.bind_none] at h; cases h
  | retc i =>
    intro md hx hp h
    cases md with
    | one st =>
      simp only [mS, stOf, Option.bind_some] at h
      split at h
      · rename_i x hv
        obtain ⟨y, hv, hn⟩ := Option.bind_eq_some_iff.mp hv
        obtain ⟨q, rfl⟩ := vRet_ok hv
        obtain ⟨p, rfl⟩ := vName_ok hn
        exact s_retc (hx.var h)
      · cases h
    | _ => simp only [mS, stOf, Option.bind_none] at h; cases h
  | retN =>
    intro md hx hp h
    cases md with
    | one st =>
      simp only [mS, stOf] at h
      split at h
      · rename_i st' p e
        cases e
        exact s_retN
      · cases h
    | _ => simp only [mS, stOf] at h; cases h
  | asg i e =>
    intro md hx hp h
    cases md with
    | one st =>
      simp only [mS, stOf, Option.bind_some] at h
      split at h
      · rename_i c hv
        obtain ⟨q, rfl⟩ := vAsg_ok hv
        simp only [Bool.and_eq_true] at h
        exact store_ok' hx h.1.2 h.2 (asg_weak h.1.1)
      · cases h
    | _ => simp only [mS, stOf, Option.bind_none] at h; cases h
  | cel i e =>
    intro md hx hp h
    cases md with
    | one st =>
      simp only [mS, stOf, Option.bind_some] at h
      split at h
      · rename_i c hv
        obtain ⟨q, rfl⟩ := vAsg_ok hv
        simp only [Bool.and_eq_true] at h
        exact store_ok' hx h.1.2 h.2 (cel_weak h.1.1)
      · cases h
    | _ => simp only [mS, stOf, Option.bind_none] at h; cases h
  | par is cels r =>
    intro md hx hp h
    cases md with
    | one st =>
      simp only [mS, stOf, Option.bind_some] at h
      split at h
      · rename_i ts v hv
        obtain ⟨k, p, q, rfl⟩ := vAsgT_ok hv
        split at h
        · rename_i vs ht
          obtain ⟨k2, p2, rfl⟩ := vTup_ok ht
          simp only [Bool.and_eq_true, decide_eq_true_eq, Bool.not_eq_true'] at h
          obtain ⟨⟨⟨⟨rfl, h2⟩, h3⟩, h4⟩, h5⟩ := h
          have a1 := mX_ok (nr := nr) r X sc fn _ hx h3
          have hk : X.env.scope.kind = .function := by rw [hx.hsc]; exact hx.kind
          split at h5
          · rename_i hw
            refine PS.weak (ps_asg (e_tup (fr := T.fr) a1.1 a1.2.1 (by rw [a1.2.2.1]; exact h4) h2) (pg_tg (tg := .tp is) hx.calm hx.nd (by rw [hx.hN, hx.hsc, hx.hfn]; exact h5)) sole_tup (swP_ok hk hx.hsc hw) rfl) (par_weak h2 a1.2.1)
          · rename_i nms hw
            rw [Bool.and_eq_true, decide_eq_true_eq] at h5
            obtain ⟨h5, h6⟩ := h5
            have sw := swP_ok (k := k) (p := p) (k2 := k2) (p2 := p2) hk hx.hsc hw
            unfold par2 at h5
            split at h5
            · rename_i x px y py i j
              simp only [Bool.and_eq_true, decide_eq_true_eq] at h5
              obtain ⟨⟨⟨⟨m1, m2⟩, m3⟩, m4⟩, m5⟩ := h5
              have hn : nms = [x, y] := by
                unfold swP at hw
                split at hw
                · cases hw
                · split at hw
                  · cases hw
                  · simp only at hw
                    split at hw
                    · cases hw
                    · rename_i c3
                      split at hw
                      · cases hw
                      · split at hw
                        · cases hw
                        · have e : nms = List.filterMap (nmLine sc ((([Expr.Name x px, Expr.Name y py].head?.map (·.pos.line)).getD 0))) [Expr.Name x px, Expr.Name y py] := by
                            cases hw; rfl
                          have l2 : nms.length = 2 := by
                            simp only [Bool.or_eq_true, not_or, bne_iff_ne, ne_eq, Decidable.not_not] at c3
                            rw [e]; exact c3.1
                          rw [e] at l2 ⊢
                          simp only [List.filterMap_cons, List.filterMap_nil, nmLine] at l2 ⊢
                          split at l2 <;> split at l2 <;> simp_all
              subst hn
              match vs, h6, a1, sw with
              | [a, b], _, a1, sw =>
                refine PS.weak (ps_par (pos := q) hx.calm hx.nd (by rw [hx.hN]; exact m1) (by rw [hx.hN]; exact m2) m3 (by rw [hx.hsc]; exact m4) (by rw [hx.hsc]; exact m5) a1.1 sw sole_tup) (par2_weak h2 a1.2.1 (by rw [a1.2.2.1]; rfl))
            · rename_i x px y py z pz i j l
              simp only [Bool.and_eq_true, decide_eq_true_eq] at h5
              obtain ⟨⟨⟨⟨⟨⟨⟨⟨m1, m2⟩, m3⟩, m4⟩, m5⟩, m6⟩, m7⟩, m8⟩, m9⟩ := h5
              have hn : nms = [x, y, z] := by
                unfold swP at hw
                split at hw
                · cases hw
                · split at hw
                  · cases hw
                  · simp only at hw
                    split at hw
                    · cases hw
                    · rename_i c3
                      split at hw
                      · cases hw
                      · split at hw
                        · cases hw
                        · have e : nms = List.filterMap (nmLine sc ((([Expr.Name x px, Expr.Name y py, Expr.Name z pz].head?.map (·.pos.line)).getD 0))) [Expr.Name x px, Expr.Name y py, Expr.Name z pz] := by
                            cases hw; rfl
                          have l2 : nms.length = 3 := by
                            simp only [Bool.or_eq_true, not_or, bne_iff_ne, ne_eq, Decidable.not_not] at c3
                            rw [e]; exact c3.1
                          rw [e] at l2 ⊢
                          simp only [List.filterMap_cons, List.filterMap_nil, nmLine] at l2 ⊢
                          split at l2 <;> split at l2 <;> split at l2 <;> simp_all
              subst hn
              match vs, h6, a1, sw with
              | [a, b, c], _, a1, sw =>
                refine PS.weak (ps_par3 (pos := q) hx.calm hx.nd (by rw [hx.hN]; exact m1) (by rw [hx.hN]; exact m2) (by rw [hx.hN]; exact m3) m4 m5 m6 (by rw [hx.hsc]; exact m7) (by rw [hx.hsc]; exact m8) (by rw [hx.hsc]; exact m9) a1.1 sw sole_tup) (par3_weak h2 a1.2.1 (by rw [a1.2.2.1]; rfl))
            · cases h5
          · cases h5
        · cases h
      · cases h
    | _ => simp only [mS, stOf, Option.bind_none] at h; cases h
  | unp is e =>
    intro md hx hp h
    cases md with
    | one st =>
      simp only [mS, stOf, Option.bind_some] at h
      split at h
      · rename_i ts v hv
        obtain ⟨k, p, q, rfl⟩ := vAsgT_ok hv
        simp only [Bool.and_eq_true, Bool.not_eq_true'] at h
        obtain ⟨⟨⟨h1, h2⟩, h3⟩, h4⟩ := h
        exact PS.weak (ps_asg (mX_ok (nr := nr) e X sc fn _ hx h4).1 (pg_tg (tg := .tp is) hx.calm hx.nd (by rw [hx.hN, hx.hsc, hx.hfn]; exact h3)) sole_tup (stores_tup h1) rfl) (bind_weak h2)
      · cases h
    | _ => simp only [mS, stOf, Option.bind_none] at h; cases h
  | ifs c a b iha ihb =>
    intro md hx hp h
    cases md with
    | one st =>
      simp only [mS, stOf, Option.bind_some] at h
      split at h
      · rename_i x s1 s2 hv
        obtain ⟨q, rfl⟩ := vIfS_ok hv
        simp only [Bool.and_eq_true] at h
        exact s_if ((mX_ok c X sc fn _ hx h.1.1.2).2 h.1.1.1) (mMode_ok (iha _ hx hp h.1.2)) (mMode_ok (ihb _ hx hp h.2))
      · cases h
    | _ => simp only [mS, stOf, Option.bind_none] at h; cases h
  | fors tg src body ihb =>
    intro md hx hp h
    cases md with
    | one st =>
      simp only [mS, stOf, Option.bind_some] at h
      split at h
      · rename_i t i b hv
        obtain ⟨q, rfl⟩ := vFor_ok hv
        simp only [Bool.and_eq_true] at h
        obtain ⟨⟨⟨⟨h1, h2⟩, h3⟩, h4⟩, h5⟩ := h
        have src' : PI X t i (tI X.K nr G src) := by
          have s1 := mX_ok (nr := nr) src X sc fn _ hx h3
          unfold sMode at s1
          split at s1
          · exact s1
          · exact PE.piv s1.1
        exact s_for hp hx.calm src' (pg_tg hx.calm hx.nd (by rw [hx.hN, hx.hsc, hx.hfn]; exact h4)) (mMode_ok (ihb _ hx hp h5)) h1 (noSet_ok h2)
      · cases h
    | _ => simp only [mS, stOf, Option.bind_none] at h; cases h
  | expr e =>
    intro md hx hp h
    cases md with
    | one st =>
      simp only [mS, stOf, Option.bind_some] at h
      split at h
      · rename_i x hv
        obtain ⟨q, rfl⟩ := vExp_ok hv
        rw [Bool.and_eq_true] at h
        exact s_expr (mX_ok e X sc fn _ hx h.2).1 (noComp_ok h.1)
      · cases h
    | _ => simp only [mS, stOf, Option.bind_none] at h; cases h
  | app i e =>
    intro md hx hp h
    cases md with
    | one st =>
      simp only [mS, stOf, Option.bind_some] at h
      split at h
      · rename_i x v hv
        obtain ⟨px, ap, cp, q, rfl, hl⟩ := vApp_ok hv
        simp only [Bool.and_eq_true] at h
        obtain ⟨⟨⟨h1, h2⟩, h3⟩, h4⟩ := h
        exact s_app (hx.var h1) (mX_ok e X sc fn _ hx h4).1 h2 h3 hl
      · cases h
    | _ => simp only [mS, stOf, Option.bind_none] at h; cases h
  | ext i e => intro md hx hp h; simp only [mS] at h; cases h
  | setx i ix e =>
    intro md hx hp h
    cases md with
    | one st =>
      simp only [mS, stOf, Option.bind_some] at h
      split at h
      · rename_i x y v hv
        obtain ⟨px, p2, q, rfl⟩ := vSetx_ok hv
        simp only [Bool.and_eq_true] at h
        obtain ⟨⟨⟨⟨h1, h2⟩, h3⟩, h4⟩, h5⟩ := h
        exact s_setx (hx.var h1) (mX_ok ix X sc fn _ hx h4).1 (mX_ok e X sc fn _ hx h5).1 h2 (assign_sub h3) sole_sub stores_sub
      · cases h
    | _ => simp only [mS, stOf, Option.bind_none] at h; cases h
  | brk =>
    intro md hx hp h
    cases md with
    | one st =>
      simp only [mS, stOf] at h
      split at h
      · rename_i st' p e
        cases e
        exact s_brk
      · cases h
    | _ => simp only [mS, stOf] at h; cases h
  | cont =>
    intro md hx hp h
    cases md with
    | one st =>
      simp only [mS, stOf] at h
      split at h
      · rename_i st' p e
        cases e
        exact s_cont
      · cases h
    | _ => simp only [mS, stOf] at h; cases h
  | frz i => intro md hx hp h; simp only [mS] at h; cases h
end
end LP
set_option autoImplicit false
set_option linter.all false
set_option maxRecDepth 100000
set_option maxHeartbeats 2000000
/-! LPDef: defs, programs, laws. -/
namespace LP
open PySem PySem.Spec PyProof.Rows L2
/-- a def: its name, number, cells handed in, parameters, slots' names, own body, whether it hands out new lists; its parameters, body, scope in the program's form -/
structure Rec where
  name : Str
  id : Nat
  nr : Nat
  ps : List Str
  N : List Str
  body : S
  nw : Bool
  params : Arguments
  sts : List Stmt
  scope : Scope
def Rec.ok (T : Tab) (r : Rec) : Bool :=
  mS T r.N r.nw r.body r.scope (fun _ => true) (mMode r.body r.sts) && C8.scC r.N r.ps r.scope && (T.fr r.id == r.nw) && decide (r.nr ≤ r.ps.length)
def tabOf (recs : List Rec) (cst : List (Str × Nat)) (fr : Nat → Bool) (kw : List (Str × List Str × List Nat)) : Tab := ⟨recs.map fun r => (r.name, r.id, r.nr, r.ps), cst, fr, kw⟩
theorem lookup_map {α β : Type} {f : α → Str × β} : ∀ {l : List α} {x : Str} {b : β}, (l.map f).lookup x = some b → ∃ a ∈ l, f a = (x, b)
  | [], x, b, h => by cases h
  | a :: l, x, b, h => by
    rw [List.map_cons] at h
    rcases hf : f a with ⟨y, c⟩
    rw [hf, List.lookup_cons] at h
    split at h
    · rename_i e
      cases h
      have e : x = y := by simpa using e
      exact ⟨a, List.mem_cons_self .., by rw [hf, e]⟩
    · obtain ⟨a', h1, h2⟩ := lookup_map h
      exact ⟨a', List.mem_cons_of_mem _ h1, h2⟩
/-- all that the laws' proof asks of the text -/
structure Txt0 (recs : List Rec) (cst : List (Str × Nat)) (fr : Nat → Bool) (kw : List (Str × List Str × List Nat)) (pr : Prog) : Prop where
  ok : ∀ r ∈ recs, r.ok (tabOf recs cst fr kw) = true
  defs : ∀ r ∈ recs, pr.defs r.id = some ⟨r.nr, r.ps.length, r.N.length, r.body⟩
  binds : ∀ r ∈ recs, ∀ (kV doc pm : Value) (an : Option Addr) (cdv ct : Value) (us : List Value), us.length = r.ps.length → bindArgs (PySem.W.fnOf r.name r.name r.params r.sts r.scope .none kV doc pm an cdv ct) ⟨us, []⟩ = pure (r.ps.zip us)
  kbinds : ∀ r ∈ recs, ∀ z ∈ kw, z.1 = r.name → ∀ (kV doc pm : Value) (an : Option Addr) (cdv ct : Value) (ws : List Value), ws.length = z.2.1.length → bindArgs (PySem.W.fnOf r.name r.name r.params r.sts r.scope .none kV doc pm an cdv ct) ⟨[], z.2.1.zip ws⟩ = pure (r.ps.zip (pick z.2.2 ws))
section
variable {recs : List Rec} {cst : List (Str × Nat)} {fr : Nat → Bool} {kw : List (Str × List Str × List Nat)} {pr : Prog} {P : Program} {w : World} {K : Frg} {mg : Str → Option Value} {base : Heap}
/-- what the heap tells -/
structure Told (recs : List Rec) (cst : List (Str × Nat)) (pr : Prog) (K : Frg) (mg : Str → Option Value) : Prop where
  fun_ : ∀ r ∈ recs, ∃ fd, FunD K r.name r.name r.params r.sts r.scope [] [] (He.ga K r.name) fd
  glo : ∀ r ∈ recs, mg r.name = some (.ref (He.ga K r.name))
  blt : ∀ x ∈ bltNames, mg x = none
  cst_ : ∀ x k, cst.lookup x = some k → ∃ d v u, mg x = some u ∧ RelV v u ∧ pr.consts k = some d ∧ ∀ H P, DR K H P d v
theorem _root_.L2.FunD.kb0 {x qual : Str} {params : Arguments} {body : List Stmt} {scope : Scope} {kws : List (Str × V)} {f : Addr} {fd : FuncData} {ps ks : List Str} {perm : List Nat} (F : FunD K x qual params body scope [] kws f fd)
    (h : ∀ (kV doc pm : Value) (an : Option Addr) (cdv ct : Value) (ws : List Value), ws.length = ks.length → bindArgs (PySem.W.fnOf x qual params body scope .none kV doc pm an cdv ct) ⟨[], ks.zip ws⟩ = pure (ps.zip (pick perm ws))) : KBn K fd ps 0 ks (fun _ ws => pick perm ws) (fun _ zs => pick perm zs) := by
  obtain ⟨oc, od, dV, kV, doc, pm, an, cdv, ct, osl, rfl, lk, hcd, hD, hK⟩ := F.ex
  rcases hD with ⟨_, rfl⟩ | ⟨e, _⟩
  · refine ⟨fun s us ws X l1 l2 => ?_, fun r1 r2 => pick_vals r2 perm⟩
    have : us = [] := List.eq_nil_of_length_eq_zero l1
    subst this
    exact .of_eq (h kV doc pm an cdv ct ws l2)
  · exact absurd rfl e
theorem start_rv {S0 ps : List Addr} {ys : List V} {ds : List D} {cs : Cs} {H : Hp} {N : List Str} {nr : Nat} (hnr : ps.length = nr) (hl : nr + ys.length ≤ N.length) (nd : ps.Nodup) (hp : ∀ p ∈ ps, p ∈ S0) (pr : Prot S0 H) (hc : CellsR K H S0 ps cs) (hcs : cs.length = nr) (hd : DRs K H S0 ds ys) :
    RS K nr S0 H S0 ps ps (startV nr ds N.length) cs (start N (ps.map V.ref ++ ys)) H := by
  have hdl := hd.length
  have ltI : ∀ {i : Nat} {z : Sl}, (startV nr ds N.length)[i]? = some z → (i < nr ∧ z = .c i) ∨ (nr ≤ i ∧ ∃ d, ds[i - nr]? = some d ∧ z = .v d) ∨ z = .un := fun {i z} e => by
    unfold startV at e
    by_cases h1 : i < nr
    · rw [List.getElem?_append_left (by simp; omega), List.getElem?_append_left (by simpa using h1)] at e
      simp [h1] at e
      exact .inl ⟨h1, e.symm⟩
    · by_cases h2 : i < nr + ds.length
      · rw [List.getElem?_append_left (by simp; omega), List.getElem?_append_right (by simp; omega)] at e
        simp only [List.length_map, List.length_range, List.getElem?_map] at e
        cases hx : ds[i - nr]? with
        | none => rw [hx] at e; cases e
        | some d => rw [hx] at e; cases e; exact .inr (.inl ⟨by omega, d, rfl, rfl⟩)
      · rw [List.getElem?_append_right (by simp; omega)] at e
        have := List.mem_of_getElem? e
        exact .inr (.inr (List.eq_of_mem_replicate this))
  have σc : ∀ {i : Nat} {p : Addr}, ps[i]? = some p → (start N (ps.map V.ref ++ ys))[i]? = some (some (.ref p)) := fun {i p} e => by
    have hi := (List.getElem?_eq_some_iff.mp e).1
    unfold L2.start
    rw [List.getElem?_append_left (by simp; omega), List.getElem?_map, List.getElem?_append_left (by simpa using hi), List.getElem?_map, e]
    rfl
  have σv : ∀ {i : Nat} {y : V}, nr ≤ i → ys[i - nr]? = some y → (start N (ps.map V.ref ++ ys))[i]? = some (some y) := fun {i y} hi e => by
    have h2 := (List.getElem?_eq_some_iff.mp e).1
    unfold L2.start
    rw [List.getElem?_append_left (by simp; omega), List.getElem?_map, List.getElem?_append_right (by simp; omega)]
    simp only [List.length_map, hnr, e, Option.map_some]
  refine ⟨⟨?_, fun i d e => ?_, fun i k e => ?_, fun k hk => ?_, fun i j k a b => ?_, nd, hp, pr, by rw [hnr, hcs]⟩, fun p h => h, fun k p hk e => ?_, fun p h => h, fun p hpp => .inl ?_, ?_, fun p hpp => ?_⟩
  · unfold startV L2.start
    simp only [List.length_append, List.length_map, List.length_range, List.length_replicate]
    omega
  · rcases ltI e with ⟨_, ez⟩ | ⟨hi, d', e1, ez⟩ | ez
    · cases ez
    · cases ez
      obtain ⟨y, e2, dr⟩ := hd.get e1
      exact ⟨y, σv hi e2, dr⟩
    · cases ez
  · rcases ltI e with ⟨hi, ez⟩ | ⟨hi, d', e1, ez⟩ | ez
    · cases ez
      have hlt : i < ps.length := by omega
      exact ⟨ps[i], List.getElem?_eq_getElem hlt, σc (List.getElem?_eq_getElem hlt)⟩
    · cases ez
    · cases ez
  · have hlt : k < nr := by
      rcases hk with h | ⟨i, e⟩
      · exact h
      · rcases ltI e with ⟨hi, ez⟩ | ⟨hi, d', e1, ez⟩ | ez
        · cases ez; exact hi
        · cases ez
        · cases ez
    have hlt : k < ps.length := by omega
    obtain ⟨c, xs, c1, c2, c3⟩ := hc k ps[k] (List.getElem?_eq_getElem hlt)
    exact ⟨ps[k], c, xs, List.getElem?_eq_getElem hlt, c1, List.getElem_mem hlt, c2, c3⟩
  · rcases ltI a with ⟨_, ez⟩ | ⟨hi, d', e1, ez⟩ | ez
    · cases ez
      rcases ltI b with ⟨_, ez⟩ | ⟨hi, d', e1, ez⟩ | ez
      · cases ez; rfl
      · cases ez
      · cases ez
    · cases ez
    · cases ez
  · have := (List.getElem?_eq_some_iff.mp e).1
    omega
  · rw [← hnr, List.take_length]; exact hpp
  · exact Frm.refl _ _
  · obtain ⟨o, e⟩ := pr.some (hp p hpp)
    rw [e]; exact fun z => by cases z
theorem defs_ok (tx : Txt0 recs cst fr kw pr) (tl : Told recs cst pr K mg) : ∀ (n : Nat) (r : Rec), r ∈ recs → ∀ fd, FunD K r.name r.name r.params r.sts r.scope [] [] (He.ga K r.name) fd → FnOk P w K mg base CX0 n (He.ga K r.name) fd r.ps (spF K (evC pr n) fr r.id r.nr r.ps.length)
  | 0, r, hr, fd, F => by
    refine ⟨fun vs H Q E h => spF_len h, fun A outer s H args us vs Q E _ _ _ _ h => ?_⟩
    obtain ⟨_, _, _, _, _, _, _, _, _, _, _, _, _, _, _, _, e, _⟩ := h
    cases e
  | n + 1, r, hr, fd, F => by
    have hk := tx.ok r hr
    simp only [Rec.ok, Bool.and_eq_true, decide_eq_true_eq, beq_iff_eq] at hk
    obtain ⟨⟨⟨k1, k2⟩, k3⟩, k4⟩ := hk
    have S := C8.fnScope_by k2
    refine F.ok S (fun vs H Q E h => spF_len h) fun cdv A outer s H vs Q E hroom h => ?_
    obtain ⟨S0, ps, ys, ds, cs, d, cs', rfl, h1, h2, h3, h4, h5, h6, h7, h8, h9, h10⟩ := h
    refine ⟨tS K r.nr ⟨pr.consts, evC pr n⟩ r.nw r.body, PSs.nox ?_, ?_⟩
    · have hx : HX (tabOf recs cst fr kw) r.N ⟨pr.consts, evC pr n⟩ n (cxOf CX0 P w K mg base r.N r.name r.scope (He.ga K r.name) cdv A outer s H E).nox r.scope (fun _ => true) :=
        { calm := rfl, nd := S.nd, hN := rfl, hsc := rfl, hfn := rfl, kind := S.kind, room := hroom
          units := by have := hroom.un; show (A.deeper _).units + 200 < cLine; omega
          blt := tl.blt
          fns := fun x f nr ps e => by
            obtain ⟨r', hr', e'⟩ := lookup_map e
            cases e'
            obtain ⟨fd', F'⟩ := tl.fun_ r' hr'
            exact ⟨He.ga K r'.name, fd', tl.glo r' hr', F'.kp, F'.bindsN (tx.binds r' hr'), defs_ok tx tl n r' hr' fd' F'⟩
          cst := tl.cst_
          kws := fun x ks perm f ps hm e => by
            obtain ⟨r', hr', e'⟩ := lookup_map e
            obtain ⟨fd', F'⟩ := tl.fun_ r' hr'
            simp only [Prod.mk.injEq] at e'
            obtain ⟨rfl, rfl, n0, rfl⟩ := e'
            have kb := F'.kb0 (fun kV doc pm an cdv ct ws hl => tx.kbinds r' hr' (r'.name, ks, perm) hm rfl kV doc pm an cdv ct ws hl)
            have fo := defs_ok tx tl n r' hr' fd' F'
            rw [n0] at fo
            exact ⟨He.ga K r'.name, fd', tl.glo r' hr', F'.kp, kb, fo⟩ }
      exact mMode_ok (mS_ok r.body _ hx PassesOwn.never k1)
    · simp only [evC, tx.defs r hr] at h9
      obtain ⟨_, e1, h9⟩ := LP.R.bind_ok h9
      obtain ⟨fl, e2, h9⟩ := LP.R.bind_ok h9
      have hlN : r.nr + ys.length ≤ r.N.length := by
        rw [h2]
        have := congrArg List.length S.pre
        rw [List.length_take] at this
        omega
      have rs := start_rv (N := r.N) h1 hlN h3 h4 h5 h6 h7 h8
      have tk : ps.take r.nr = ps := by rw [← h1, List.take_length]
      refine ⟨S0, H, S0, ps, ps, _, cs, fl, rs, e2, ?_⟩
      rw [show fr r.id = r.nw from k3] at h10
      cases fl with
      | nx vs' cs2 =>
        cases h9
        intro σ' H' nx
        obtain ⟨P', W', ps', r', g, t⟩ := nx
        have o := r'.out (nw := r.nw) (d := .none) (x := .non) (by simp only [DR]) (fun _ c ec => by cases ec)
        rw [t, tk] at o
        exact h10 _ _ o
      | rt d2 cs2 =>
        cases h9
        intro x H' pf
        rw [tk] at pf
        exact h10 _ _ pf
      | bk _ _ => cases h9
      | ct _ _ => cases h9
/-- a law's def, its promise -/
theorem law_sp {lid k : Nat} {a : Addr} {ns : List Int} {H : Hp} (hS : SqL K H a (ns.map V.int)) (hl : evC pr k lid [.list (ns.map .int)] [] = .ok (.bool true, [])) : spF K (evC pr k) fr lid 0 1 [.ref a] H (fun v _ => v = .bl true) fun _ _ _ => False := by
  have intsR : ∀ ms : List Int, DRs K H [] (ms.map .int) (ms.map V.int) := fun ms => by
    induction ms with
    | nil => simp [DRs]
    | cons m ms ih =>
      simp only [List.map_cons, DRs]
      exact ⟨.int m, ms.map V.int, rfl, by simp only [DR], ih⟩
  refine ⟨[], [], [.ref a], [.list (ns.map .int)], [], .bool true, [], rfl, rfl, rfl, List.nodup_nil, by simp, fun p hp => by simp at hp, fun k p e => by simp at e, rfl, ?_, hl, fun x H' pf => by simpa only [DR] using pf.dr⟩
  refine DRs.one ?_
  simp only [DR]
  refine ⟨a, ns.map V.int, rfl, ?_, intsR ns⟩
  rcases hS with (h | ⟨o, h⟩) | h
  · exact .inl ⟨h, by simp⟩
  · exact .inr (.inl ⟨o, h⟩)
  · exact .inr (.inr h)
end
/-! ### constants in the written part -/
mutual
def datB (K : Frg) : D → Value → Bool
  | .none, .none => true
  | .bool b, .bool c => b == c
  | .int i, .int j _ => decide (i = j)
  | .str x, .str y _ => decide (x = y)
  | .list ds, .ref a => (match K.lookup a with
    | some ⟨.type c, none, .seq its _, _⟩ => decide (c = "list") && (decide (its.size ≤ sizeLine) && datsB K ds its.toList)
    | _ => false)
  | .tuple ds, .ref a => (match K.lookup a with
    | some ⟨.type c, _, .seq its _, _⟩ => decide (c = "tuple") && (decide (its.size ≤ sizeLine) && datsB K ds its.toList)
    | _ => false)
  | _, _ => false
def datsB (K : Frg) : List D → List Value → Bool
  | [], [] => true
  | d :: ds, u :: us => datB K d u && datsB K ds us
  | _, _ => false
end
mutual
theorem datB_ok {K : Frg} : ∀ {d : D} {u : Value}, datB K d u = true → ∃ v, RelV v u ∧ ∀ H P, DR K H P d v
  | .none, u, h => by
    cases u <;> simp only [datB] at h <;> first | cases h | skip
    exact ⟨.non, rfl, fun H P => by simp only [DR]⟩
  | .bool b, u, h => by
    cases u <;> simp only [datB] at h <;> first | cases h | skip
    cases eq_of_beq h
    exact ⟨.bl b, rfl, fun H P => by simp only [DR]⟩
  | .int i, u, h => by
    cases u <;> simp only [datB] at h <;> first | cases h | skip
    cases of_decide_eq_true h
    exact ⟨.int i, ⟨_, rfl⟩, fun H P => by simp only [DR]⟩
  | .str x, u, h => by
    cases u <;> simp only [datB] at h <;> first | cases h | skip
    cases of_decide_eq_true h
    exact ⟨.str x, ⟨_, rfl⟩, fun H P => by simp only [DR]⟩
  | .list ds, u, h => by
    cases u <;> simp only [datB] at h <;> first | cases h | skip
    rename_i a
    split at h
    · rename_i c its n sl q
      simp only [Bool.and_eq_true, decide_eq_true_eq] at h
      obtain ⟨rfl, h2, h3⟩ := h
      obtain ⟨vs, r, dr⟩ := datsB_ok h3
      refine ⟨.ref a, rfl, fun H P => ?_⟩
      simp only [DR]
      exact ⟨a, vs, rfl, .inr (.inr ⟨_, its, n, q, rfl, rfl, rfl, h2, r⟩), dr H P⟩
    · cases h
  | .tuple ds, u, h => by
    cases u <;> simp only [datB] at h <;> first | cases h | skip
    rename_i a
    split at h
    · rename_i c dd its n sl q
      simp only [Bool.and_eq_true, decide_eq_true_eq] at h
      obtain ⟨rfl, h2, h3⟩ := h
      obtain ⟨vs, r, dr⟩ := datsB_ok h3
      refine ⟨.ref a, rfl, fun H P => ?_⟩
      simp only [DR]
      exact ⟨a, vs, rfl, .inr ⟨_, its, n, q, rfl, rfl, h2, r⟩, dr H P⟩
    · cases h
  | .dict _, u, h => by cases u <;> simp only [datB] at h <;> cases h
theorem datsB_ok {K : Frg} : ∀ {ds : List D} {us : List Value}, datsB K ds us = true → ∃ vs, Vals vs us ∧ ∀ H P, DRs K H P ds vs
  | [], [], h => ⟨[], .nil, fun H P => by simp [DRs]⟩
  | [], _ :: _, h => by simp only [datsB] at h; cases h
  | _ :: _, [], h => by simp only [datsB] at h; cases h
  | d :: ds, u :: us, h => by
    simp only [datsB, Bool.and_eq_true] at h
    obtain ⟨v, r, dr⟩ := datB_ok h.1
    obtain ⟨vs, rs, drs⟩ := datsB_ok h.2
    exact ⟨v :: vs, .cons r rs, fun H P => by simp only [DRs]; exact ⟨v, vs, rfl, dr H P, drs H P⟩⟩
end
end LP
set_option autoImplicit false
set_option linter.all false
set_option maxRecDepth 100000
set_option maxHeartbeats 2000000
/-! LPHead: what the top leaves behind, as facts. -/
namespace LP
open PySem PySem.Spec PyProof.Rows L2
def cstB (K : Frg) (x : Str) (d : D) : Bool := match PySem.W.nsIn K mainGlobals x with
  | some (some u) => datB K d u
  | _ => false
def defD (r : Rec) : He.DefD := ⟨(r.name, none), r.name, r.name, r.params, r.sts, r.scope, [], []⟩
def factsOf (recs : List Rec) : List He.Fa := (recs.map fun r => He.Fa.glo r.name) ++ bltNames.map He.Fa.free
abbrev ObT : Type := He.AlD × Bool
def obsC (n : Nat) (recs : List Rec) (csts : List (Str × Nat × D)) (g : Addr → Option Obj) : ObT :=
  (He.obsDG n (factsOf recs) (recs.map defD) g, csts.all fun z => cstB (He.frG g (He.asD g n)) z.1 z.2.2)
def hookC (n : Nat) (recs : List Rec) (csts : List (Str × Nat × D)) : PySem.W.Hook where
  α := ObT
  obs := fun s => obsC n recs csts s.heap.get?
  val := fun _ => (He.valD (recs.map defD), true)
  says := fun _ h => ∃ K : Frg, K.In h ∧ He.SaysD (factsOf recs) (recs.map defD) K ∧ ∀ z ∈ csts, cstB K z.1 z.2.2 = true
  of := fun _ _ e => ⟨_, He.frG_in, congrArg Prod.fst e, List.all_eq_true.mp (congrArg Prod.snd e)⟩
  keeps := fun _ _ _ ⟨K, hK, c⟩ k => ⟨K, PySem.W.Frag.In.keeps hK k, c⟩
theorem obsC_eq {n : Nat} {recs : List Rec} {csts : List (Str × Nat × D)} {g : Addr → Option Obj} {s : Shared} (h : ∀ a, g a = s.heap.get? a) : obsC n recs csts g = (hookC n recs csts).obs s := by
  have e : g = s.heap.get? := funext h
  rw [e]; rfl
section
variable {recs : List Rec} {csts : List (Str × Nat × D)} {pr : Prog} {K : Frg} {h : Heap} {mg : Str → Option Value}
theorem told_of (X : K.In h) (G : h.Ns mainGlobals mg) (c : He.SaysD (factsOf recs) (recs.map defD) K) (hc : ∀ z ∈ csts, cstB K z.1 z.2.2 = true) (hp : ∀ z ∈ csts, pr.consts z.2.1 = some z.2.2) :
    Told recs (csts.map fun z => (z.1, z.2.1)) pr K mg := by
  have fact : ∀ f ∈ factsOf recs, f.ok K = true := fun f hf => by
    obtain ⟨i, hi⟩ := List.mem_iff_getElem?.mp hf
    exact c.fact i hi
  refine ⟨fun r hr => ?_, fun r hr => He.glo_ok X G (fact _ (List.mem_append_left _ (List.mem_map.mpr ⟨r, hr, rfl⟩))), fun x hx => He.free_ok X G (fact _ (List.mem_append_right _ (List.mem_map.mpr ⟨x, hx, rfl⟩))), fun x k e => ?_⟩
  · obtain ⟨i, hi⟩ := List.mem_iff_getElem?.mp hr
    exact c.def_ i (d := defD r) (by rw [List.getElem?_map, hi]; rfl)
  · obtain ⟨z, hz, e⟩ := lookup_map e
    cases e
    have q := hc z hz
    unfold cstB at q
    split at q
    · rename_i u eu
      obtain ⟨v, rv, dr⟩ := datB_ok q
      exact ⟨z.2.2, v, u, PySem.W.mg_of X G eu, rv, hp z hz, dr⟩
    · cases q
end
end LP
set_option autoImplicit false
set_option linter.all false
set_option maxRecDepth 100000
set_option maxHeartbeats 1000000
/-! LPW: what holds behind a run (wp), rule by rule; simp only with w_simps-like lists pushes it down to the calls. -/
namespace LP
open PySem
def wp {α : Type} (x : R α) (Q : α → Prop) : Prop :=
  match x with
  | .ok a => Q a
  | _ => False
theorem wp_ok {α : Type} (a : α) (Q : α → Prop) : wp (R.ok a) Q = Q a := rfl
theorem wp_bind {α β : Type} (x : R α) (f : α → R β) (Q : β → Prop) : wp (x >>= f) Q = wp x (fun a => wp (f a) Q) := by
  cases x <;> rfl
theorem wp_mono {α : Type} {x : R α} {P Q : α → Prop} (h : wp x P) (hQ : ∀ a, P a → Q a) : wp x Q := by
  cases x with
  | ok a => exact hQ a h
  | exc c as => exact h
  | bad => exact h
theorem wp_eq {α : Type} {x : R α} {a : α} {Q : α → Prop} (h : x = .ok a) (hQ : Q a) : wp x Q := by rw [h]; exact hQ
theorem wp_iff {α : Type} {x : R α} {Q : α → Prop} : wp x Q ↔ ∃ a, x = .ok a ∧ Q a := by
  cases x with
  | ok a => exact ⟨fun h => ⟨a, rfl, h⟩, fun ⟨b, e, h⟩ => by cases e; exact h⟩
  | exc c as => exact ⟨fun h => h.elim, fun ⟨b, e, h⟩ => by cases e⟩
  | bad => exact ⟨fun h => h.elim, fun ⟨b, e, h⟩ => by cases e⟩
theorem eq_of_wp {α : Type} {x : R α} {a : α} (h : wp x (fun b => b = a)) : x = .ok a := by
  obtain ⟨b, e, rfl⟩ := wp_iff.mp h
  exact e
theorem wp_chk (c : Bool) (Q : Unit → Prop) : wp (R.chk c) Q = (c = true ∧ Q ()) := by
  cases c
  · exact propext ⟨fun h => h.elim, fun h => by cases h.1⟩
  · exact propext ⟨fun h => ⟨rfl, h⟩, fun h => h.2⟩
theorem wp_some {α : Type} (a : α) (Q : α → Prop) : wp (R.ofO (some a)) Q = Q a := rfl
theorem wp_ofO {α : Type} {o : Option α} {a : α} {Q : α → Prop} (h : o = some a) (hQ : Q a) : wp (R.ofO o) Q := by rw [h]; exact hQ
theorem wp_ite {α : Type} (c : Prop) [Decidable c] (x y : R α) (Q : α → Prop) : wp (if c then x else y) Q = if c then wp x Q else wp y Q := by
  by_cases h : c <;> simp only [h, if_true, if_false]
section
variable {G : Gx} {nr : Nat} {vs : Vs} {cs : Cs} {Q : D × Cs → Prop}
theorem we_lit (d : D) : wp (evE G (.lit d) vs cs) Q = Q (d, cs) := rfl
theorem we_gl (k : Nat) : wp (evE G (.gl k) vs cs) Q = wp (R.ofO (G.consts k)) (fun d => Q (d, cs)) := by simp only [evE, wp_bind, wp_ok]
theorem we_var (i : Nat) : wp (evE G (.var i) vs cs) Q = wp (getV vs i) (fun d => Q (d, cs)) := by simp only [evE, wp_bind, wp_ok]
theorem we_pk (i : Nat) : wp (evE G (.pk i) vs cs) Q = wp (getC vs i) (fun k => wp (R.ofO cs[k]?) (fun c => Q (.list c, cs))) := by simp only [evE, wp_bind, wp_ok]
theorem we_nil : wp (evE G .nil vs cs) Q = Q (.tuple [], cs) := rfl
/-- a row's next part -/
def consK (d : D) (Q : D × Cs → Prop) (p : D × Cs) : Prop :=
  match p.1 with
  | .tuple ds => Q (.tuple (d :: ds), p.2)
  | _ => False
theorem consK_t (d : D) (ds : List D) (cs : Cs) : consK d Q (.tuple ds, cs) = Q (.tuple (d :: ds), cs) := rfl
theorem we_cons (a r : E) : wp (evE G (.cons a r) vs cs) Q = wp (evE G a vs cs) (fun p => wp (evE G r vs p.2) (consK p.1 Q)) := by
  simp only [evE, wp_bind]
  congr 1; funext p; congr 1; funext q
  obtain ⟨q, _⟩ := q
  cases q <;> rfl
theorem we_tup (r : E) : wp (evE G (.tup r) vs cs) Q = wp (evE G r vs cs) Q := by simp only [evE]
def lstK (Q : D × Cs → Prop) (p : D × Cs) : Prop :=
  match p.1 with
  | .tuple ds => Q (.list ds, p.2)
  | _ => False
theorem lstK_t (ds : List D) (cs : Cs) : lstK Q (.tuple ds, cs) = Q (.list ds, cs) := rfl
theorem we_lst (r : E) : wp (evE G (.lst r) vs cs) Q = wp (evE G r vs cs) (lstK Q) := by
  simp only [evE, wp_bind]
  congr 1; funext q
  obtain ⟨q, _⟩ := q
  cases q <;> rfl
theorem we_o1 (o : O1) (a : E) : wp (evE G (.o1 o a) vs cs) Q = wp (evE G a vs cs) (fun p => wp (op1 o p.1) (fun r => Q (r, p.2))) := by simp only [evE, wp_bind, wp_ok]
theorem we_o2 (o : O2) (a b : E) : wp (evE G (.o2 o a b) vs cs) Q = wp (evE G a vs cs) (fun p => wp (evE G b vs p.2) (fun q => wp (op2 o p.1 q.1) (fun r => Q (r, q.2)))) := by simp only [evE, wp_bind, wp_ok]
theorem we_and (a b : E) : wp (evE G (.and a b) vs cs) Q = wp (evE G a vs cs) (fun p => wp (tru p.1) (fun c => if c = true then wp (evE G b vs p.2) Q else Q p)) := by
  simp only [evE, wp_bind, wp_ite, wp_ok]
theorem we_or (a b : E) : wp (evE G (.or a b) vs cs) Q = wp (evE G a vs cs) (fun p => wp (tru p.1) (fun c => if c = true then Q p else wp (evE G b vs p.2) Q)) := by
  simp only [evE, wp_bind, wp_ite, wp_ok]
theorem we_ife (c a b : E) : wp (evE G (.ife c a b) vs cs) Q = wp (evE G c vs cs) (fun p => wp (tru p.1) (fun c => if c = true then wp (evE G a vs p.2) Q else wp (evE G b vs p.2) Q)) := by
  simp only [evE, wp_bind, wp_ite, wp_ok]
theorem we_isi (a : E) (ts : List Ty) : wp (evE G (.isi a ts) vs cs) Q = wp (evE G a vs cs) (fun p => Q (.bool (ts.any (isTy p.1)), p.2)) := by simp only [evE, wp_bind, wp_ok]
theorem we_sl (a lo hi : E) : wp (evE G (.sl a lo hi) vs cs) Q = wp (evE G a vs cs) (fun p => wp (evE G lo vs p.2) (fun q => wp (evE G hi vs q.2) (fun r => wp (evE.bnd lo q.1) (fun l => wp (evE.bnd hi r.1) (fun h => wp (slD l h p.1) (fun d => Q (d, r.2))))))) := by
  simp only [evE, wp_bind, wp_ok]
theorem we_nob : wp (evE G .nob vs cs) Q = Q (.none, cs) := rfl
theorem we_comp (tg : Tg) (src cond elt : E) : wp (evE G (.comp tg src cond elt) vs cs) Q = wp (evE G src vs cs) (fun p => wp (seqOf p.1) (fun xs => noCel tg vs = true ∧ wp (compLoop (compF G tg cond elt vs) xs p.2) (fun q => Q (.list q.1, q.2)))) := by
  simp only [evE_comp, wp_bind, wp_ok, wp_chk]
theorem c_step {tg : Tg} {cond elt : E} {x : D} {Q : Option D × Cs → Prop} : wp (compF G tg cond elt vs x cs) Q = wp (bindTg tg x vs) (fun vs => wp (evE G cond vs cs) (fun p => wp (tru p.1) (fun c => if c = true then wp (evE G elt vs p.2) (fun q => Q (some q.1, q.2)) else Q (none, p.2)))) := by
  simp only [compF, wp_bind, wp_ok, wp_ite]
theorem we_rng1 (a : E) : wp (evE G (.rng1 a) vs cs) Q = wp (evE G a vs cs) (fun p => wp (asInt p.1) (fun n => (n ≤ sz ∧ -(2 ^ 62) ≤ n) ∧ Q (.list ((List.range n.toNat).map fun (k : Nat) => .int (k : Int)), p.2))) := by
  simp only [evE, wp_bind, wp_ok, wp_chk, decide_eq_true_eq]
theorem we_rng2 (a b : E) : wp (evE G (.rng2 a b) vs cs) Q = wp (evE G a vs cs) (fun p => wp (evE G b vs p.2) (fun q => wp (asInt p.1) (fun m => wp (asInt q.1) (fun n => (n - m ≤ sz ∧ -(2 ^ 62) ≤ n ∧ -(2 ^ 62) ≤ m ∧ n < 2 ^ 62 ∧ m < 2 ^ 62) ∧ Q (.list ((List.range (n - m).toNat).map fun (k : Nat) => .int (m + (k : Int))), q.2))))) := by
  simp only [evE, wp_bind, wp_ok, wp_chk, decide_eq_true_eq]
theorem we_enum (a : E) : wp (evE G (.enum a) vs cs) Q = wp (evE G a vs cs) (fun p => wp (itemsOf p.1) (fun xs => Q (.list (numbered xs), p.2))) := by simp only [evE, wp_bind, wp_ok]
theorem we_zip (a b : E) : wp (evE G (.zip a b) vs cs) Q = wp (evE G a vs cs) (fun p => wp (evE G b vs p.2) (fun q => wp (zipD p.1 q.1) (fun r => Q (.list r, q.2)))) := by simp only [evE, wp_bind, wp_ok]
/-- a call: the row of arguments is there -/
def callK (G : Gx) (f : Nat) (refs : List Nat) (ln : Bool) (vs : Vs) (Q : D × Cs → Prop) (p : D × Cs) : Prop :=
  match p.1 with
  | .tuple ds => wp (cellsAt vs p.2 refs) (fun kc => wp (G.cl f ds (kc.map (·.2))) (fun r => ((!ln || !hasList r.1) && r.2.all fun c => !hasListAll c) = true ∧ Q (r.1, putCells kc r.2 p.2)))
  | _ => False
theorem callK_t (f : Nat) (refs : List Nat) (ln : Bool) (ds : List D) (cs : Cs) : callK G f refs ln vs Q (.tuple ds, cs) = wp (cellsAt vs cs refs) (fun kc => wp (G.cl f ds (kc.map (·.2))) (fun r => ((!ln || !hasList r.1) && r.2.all fun c => !hasListAll c) = true ∧ Q (r.1, putCells kc r.2 cs))) := rfl
theorem we_call (f : Nat) (refs : List Nat) (r : E) : wp (evE G (.call f refs r) vs cs) Q = wp (evE G r vs cs) (callK G f refs (lends r) vs Q) := by
  simp only [evE, wp_bind]
  congr 1; funext q
  obtain ⟨q, c⟩ := q
  cases q <;> try rfl
  simp only [wp_bind, wp_chk, wp_ok, callK]
def callkK (G : Gx) (f : Nat) (perm : List Nat) (Q : D × Cs → Prop) (p : D × Cs) : Prop :=
  match p.1 with
  | .tuple ds => wp (permute perm ds) (fun ds => wp (G.cl f ds []) (fun r => Q (r.1, p.2)))
  | _ => False
theorem callkK_t (f : Nat) (perm : List Nat) (ds : List D) (cs : Cs) : callkK G f perm Q (.tuple ds, cs) = wp (permute perm ds) (fun ds => wp (G.cl f ds []) (fun r => Q (r.1, cs))) := rfl
theorem we_callk (f : Nat) (perm : List Nat) (r : E) : wp (evE G (.callk f perm r) vs cs) Q = wp (evE G r vs cs) (callkK G f perm Q) := by
  simp only [evE, wp_bind]
  congr 1; funext q
  obtain ⟨q, c⟩ := q
  cases q <;> try rfl
  simp only [wp_bind, wp_chk, wp_ok, callkK]
/-- a call with a new list -/
def calltK (G : Gx) (f : Nat) (r : E) (vs : Vs) (Q : D × Cs → Prop) (p : D × Cs) : Prop :=
  match p.1 with
  | .list xs => wp (evE G r vs p.2) (fun q => match q.1 with
    | .tuple ds => wp (G.cl f ds [xs]) (fun z => (!lends r || !hasList z.1) = true ∧ Q (z.1, q.2))
    | _ => False)
  | _ => False
theorem calltK_l (f : Nat) (r : E) (xs : List D) (cs : Cs) : calltK G f r vs Q (.list xs, cs) = wp (evE G r vs cs) (fun q => match q.1 with
    | .tuple ds => wp (G.cl f ds [xs]) (fun z => (!lends r || !hasList z.1) = true ∧ Q (z.1, q.2))
    | _ => False) := rfl
theorem we_callt (f : Nat) (a r : E) : wp (evE G (.callt f a r) vs cs) Q = wp (evE G a vs cs) (calltK G f r vs Q) := by
  simp only [evE, wp_bind]
  congr 1; funext p
  obtain ⟨p, c⟩ := p
  cases p <;> try rfl
  simp only [wp_bind, calltK]
  congr 1; funext q
  obtain ⟨q, c2⟩ := q
  cases q <;> try rfl
  simp only [wp_bind, wp_chk, wp_ok]
end
/-- go on behind a statement -/
def contK (g : Vs → Cs → R Fl) (Q : Fl → Prop) (f : Fl) : Prop :=
  match f with
  | .nx vs cs => wp (g vs cs) Q
  | f => Q f
section
variable {G : Gx} {nr : Nat} {vs : Vs} {cs : Cs} {Q : Fl → Prop}
theorem k_nx (g : Vs → Cs → R Fl) (vs : Vs) (cs : Cs) : contK g Q (.nx vs cs) = wp (g vs cs) Q := rfl
theorem k_rt (g : Vs → Cs → R Fl) (d : D) (cs : Cs) : contK g Q (.rt d cs) = Q (.rt d cs) := rfl
theorem k_bk (g : Vs → Cs → R Fl) (vs : Vs) (cs : Cs) : contK g Q (.bk vs cs) = Q (.bk vs cs) := rfl
theorem k_ct (g : Vs → Cs → R Fl) (vs : Vs) (cs : Cs) : contK g Q (.ct vs cs) = Q (.ct vs cs) := rfl
theorem ws_nop : wp (evS G nr .nop vs cs) Q = Q (.nx vs cs) := rfl
theorem ws_seq (a b : S) : wp (evS G nr (.seq a b) vs cs) Q = wp (evS G nr a vs cs) (contK (evS G nr b) Q) := by
  simp only [evS, wp_bind]
  congr 1; funext f
  cases f <;> rfl
theorem ws_ret (e : E) : wp (evS G nr (.ret e) vs cs) Q = wp (evE G e vs cs) (fun p => Q (.rt p.1 p.2)) := by simp only [evS, wp_bind, wp_ok]
theorem ws_retc (i : Nat) : wp (evS G nr (.retc i) vs cs) Q = wp (getC vs i) (fun k => nr ≤ k ∧ wp (R.ofO cs[k]?) (fun c => Q (.rt (.list c) cs))) := by simp only [evS, wp_bind, wp_ok, wp_chk, decide_eq_true_eq]
theorem ws_retN : wp (evS G nr .retN vs cs) Q = Q (.rt .none cs) := rfl
theorem ws_asg (i : Nat) (e : E) : wp (evS G nr (.asg i e) vs cs) Q = wp (evE G e vs cs) (fun p => Q (.nx (vs.set i (.v p.1)) p.2)) := by simp only [evS, wp_bind, wp_ok]
def celK (i : Nat) (vs : Vs) (Q : Fl → Prop) (p : D × Cs) : Prop :=
  match p.1 with
  | .list xs => Q (.nx (vs.set i (.c p.2.length)) (p.2 ++ [xs]))
  | _ => False
theorem celK_l (i : Nat) (xs : List D) (cs : Cs) : celK i vs Q (.list xs, cs) = Q (.nx (vs.set i (.c cs.length)) (cs ++ [xs])) := rfl
theorem ws_cel (i : Nat) (e : E) : wp (evS G nr (.cel i e) vs cs) Q = wp (evE G e vs cs) (celK i vs Q) := by
  simp only [evS, wp_bind]
  congr 1; funext p
  obtain ⟨p, c⟩ := p
  cases p <;> rfl
def parK (is cels : List Nat) (vs : Vs) (Q : Fl → Prop) (p : D × Cs) : Prop :=
  match p.1 with
  | .tuple ds => wp (bindAll is ds vs) (fun vs => wp (ownAll cels vs p.2) (fun q => Q (.nx q.1 q.2)))
  | _ => False
theorem parK_t (is cels : List Nat) (ds : List D) (cs : Cs) : parK is cels vs Q (.tuple ds, cs) = wp (bindAll is ds vs) (fun vs => wp (ownAll cels vs cs) (fun q => Q (.nx q.1 q.2))) := rfl
theorem ws_par (is cels : List Nat) (r : E) : wp (evS G nr (.par is cels r) vs cs) Q = wp (evE G r vs cs) (parK is cels vs Q) := by
  simp only [evS, wp_bind]
  congr 1; funext p
  obtain ⟨p, c⟩ := p
  cases p <;> try rfl
  simp only [wp_bind, wp_ok, parK]
theorem ws_unp (is : List Nat) (e : E) : wp (evS G nr (.unp is e) vs cs) Q = wp (evE G e vs cs) (fun p => wp (itemsOf p.1) (fun ds => wp (bindAll is ds vs) (fun vs => Q (.nx vs p.2)))) := by simp only [evS, wp_bind, wp_ok]
theorem ws_ifs (c : E) (a b : S) : wp (evS G nr (.ifs c a b) vs cs) Q = wp (evE G c vs cs) (fun p => wp (tru p.1) (fun c => if c = true then wp (evS G nr a vs p.2) Q else wp (evS G nr b vs p.2) Q)) := by
  simp only [evS, wp_bind, wp_ite]
/-- one turn of a loop -/
def loopF (G : Gx) (nr : Nat) (tg : Tg) (body : S) (x : D) (vs : Vs) (cs : Cs) : R Fl := do
  let vs ← bindTg tg x vs
  evS G nr body vs cs
theorem l_step {tg : Tg} {body : S} {x : D} : wp (loopF G nr tg body x vs cs) Q = wp (bindTg tg x vs) (fun vs => wp (evS G nr body vs cs) Q) := by simp only [loopF, wp_bind]
theorem ws_fors (tg : Tg) (src : E) (body : S) : wp (evS G nr (.fors tg src body) vs cs) Q = wp (evE G src vs cs) (fun p => wp (seqOf p.1) (fun xs => wp (forLoop (loopF G nr tg body) xs vs p.2) Q)) := by
  simp only [evS, wp_bind]
  rfl
theorem ws_expr (e : E) : wp (evS G nr (.expr e) vs cs) Q = wp (evE G e vs cs) (fun p => Q (.nx vs p.2)) := by simp only [evS, wp_bind, wp_ok]
theorem ws_app (i : Nat) (e : E) : wp (evS G nr (.app i e) vs cs) Q = wp (evE G e vs cs) (fun p => wp (getC vs i) (fun k => wp (R.ofO p.2[k]?) (fun c => c.length < sz ∧ Q (.nx vs (p.2.set k (c ++ [p.1])))))) := by
  simp only [evS, wp_bind, wp_ok, wp_chk, decide_eq_true_eq]
theorem ws_setx (i : Nat) (ix e : E) : wp (evS G nr (.setx i ix e) vs cs) Q = wp (evE G e vs cs) (fun p => wp (getC vs i) (fun k => wp (evE G ix vs p.2) (fun q => wp (R.ofO q.2[k]?) (fun c => wp (asInt q.1) (fun n => wp (R.ofO (place c.length n)) (fun j => Q (.nx vs (q.2.set k (c.set j p.1))))))))) := by
  simp only [evS, wp_bind, wp_ok]
theorem ws_brk : wp (evS G nr .brk vs cs) Q = Q (.bk vs cs) := rfl
theorem ws_cont : wp (evS G nr .cont vs cs) Q = Q (.ct vs cs) := rfl
theorem ws_frz (i : Nat) : wp (evS G nr (.frz i) vs cs) Q = wp (getC vs i) (fun k => nr ≤ k ∧ wp (R.ofO cs[k]?) (fun c => Q (.nx (vs.set i (.v (.list c))) cs))) := by simp only [evS, wp_bind, wp_ok, wp_chk, decide_eq_true_eq]
end
theorem getV_v {d : D} {vs : Vs} : getV (.v d :: vs) 0 = .ok d := rfl
theorem getV_s {x : Sl} {vs : Vs} {i : Nat} : getV (x :: vs) (i + 1) = getV vs i := by simp only [getV, List.getElem?_cons_succ]
theorem getC_c {k : Nat} {vs : Vs} : getC (.c k :: vs) 0 = .ok k := rfl
theorem getC_s {x : Sl} {vs : Vs} {i : Nat} : getC (x :: vs) (i + 1) = getC vs i := by simp only [getC, List.getElem?_cons_succ]
theorem bindTg_nm {i : Nat} {d : D} {vs : Vs} : bindTg (.nm i) d vs = .ok (vs.set i (.v d)) := rfl
theorem bindTg_t {is : List Nat} {ds : List D} {vs : Vs} : bindTg (.tp is) (.tuple ds) vs = bindAll is ds vs := rfl
theorem bindTg_l {is : List Nat} {ds : List D} {vs : Vs} : bindTg (.tp is) (.list ds) vs = bindAll is ds vs := rfl
theorem bindAll_n {vs : Vs} : bindAll [] [] vs = .ok vs := rfl
theorem bindAll_c {i : Nat} {is : List Nat} {d : D} {ds : List D} {vs : Vs} : bindAll (i :: is) (d :: ds) vs = bindAll is ds (vs.set i (.v d)) := rfl
theorem cellsAt_n {vs : Vs} {cs : Cs} : cellsAt vs cs [] = .ok [] := rfl
theorem cellsAt_c {vs : Vs} {cs : Cs} {i : Nat} {is : List Nat} {Q : List (Nat × List D) → Prop} : wp (cellsAt vs cs (i :: is)) Q = wp (getC vs i) (fun k => wp (R.ofO cs[k]?) (fun c => wp (cellsAt vs cs is) (fun r => Q ((k, c) :: r)))) := by
  simp only [cellsAt, wp_bind, wp_ok]
theorem ownAll_n {vs : Vs} {cs : Cs} : ownAll [] vs cs = .ok (vs, cs) := rfl
theorem putCells_n {new cs : Cs} : putCells [] new cs = cs := by cases new <;> rfl
theorem putCells_c {k : Nat} {x c : List D} {ks : List (Nat × List D)} {new cs : Cs} : putCells ((k, x) :: ks) (c :: new) cs = putCells ks new (cs.set k c) := rfl
theorem w_evC {P : Prog} {n f : Nat} {d : Def} {ds : List D} {cs : Cs} {Q : D × Cs → Prop} (hd : P.defs f = some d) (hl : cs.length = d.nr ∧ d.nr + ds.length = d.np)
    (he : wp (evS ⟨P.consts, evC P n⟩ d.nr d.body (startV d.nr ds d.ns) cs) (fun r => wp (outOf d.nr r) Q)) : wp (evC P (n + 1) f ds cs) Q := by
  simp only [evC, hd, R.chk, decide_eq_true hl, if_true, R.ok_bind, wp_bind]
  exact he
theorem out_rt {nr : Nat} {d : D} {cs : Cs} : outOf nr (.rt d cs) = .ok (d, cs.take nr) := rfl
theorem out_nx {nr : Nat} {vs : Vs} {cs : Cs} : outOf nr (.nx vs cs) = .ok (.none, cs.take nr) := rfl
/-- what a turn of a loop leaves -/
def turnK (J : Vs → Cs → Prop) (Q : Fl → Prop) : Fl → Prop
  | .nx vs cs => J vs cs
  | .ct vs cs => J vs cs
  | .bk vs cs => Q (.nx vs cs)
  | .rt d cs => Q (.rt d cs)
theorem t_nx {J : Vs → Cs → Prop} {Q : Fl → Prop} {vs : Vs} {cs : Cs} : turnK J Q (.nx vs cs) = J vs cs := rfl
theorem t_ct {J : Vs → Cs → Prop} {Q : Fl → Prop} {vs : Vs} {cs : Cs} : turnK J Q (.ct vs cs) = J vs cs := rfl
theorem t_bk {J : Vs → Cs → Prop} {Q : Fl → Prop} {vs : Vs} {cs : Cs} : turnK J Q (.bk vs cs) = Q (.nx vs cs) := rfl
theorem t_rt {J : Vs → Cs → Prop} {Q : Fl → Prop} {d : D} {cs : Cs} : turnK J Q (.rt d cs) = Q (.rt d cs) := rfl
theorem for_inv0 {α : Type} {enc : α → D} {f : D → Vs → Cs → R Fl} {Q : Fl → Prop} {xs : List α} (I : List α → Vs → Cs → Prop)
    (hs : ∀ p x r vs cs, xs = p ++ x :: r → I p vs cs → wp (f (enc x) vs cs) (turnK (I (p ++ [x])) Q)) (he : ∀ vs cs, I xs vs cs → Q (.nx vs cs)) :
    ∀ (r p : List α) (vs : Vs) (cs : Cs), xs = p ++ r → I p vs cs → wp (forLoop f (r.map enc) vs cs) Q
  | [], p, vs, cs, e, h0 => he vs cs (by rw [e, List.append_nil]; exact h0)
  | x :: r, p, vs, cs, e, h0 => by
    rw [List.map_cons, forLoop, wp_bind]
    refine wp_mono (hs p x r vs cs e h0) fun o ho => ?_
    have go : ∀ vs cs, I (p ++ [x]) vs cs → wp (forLoop f (r.map enc) vs cs) Q := fun vs cs hI => for_inv0 I hs he r (p ++ [x]) vs cs (by simpa using e) hI
    cases o with
    | nx vs cs => exact go vs cs ho
    | ct vs cs => exact go vs cs ho
    | bk vs cs => exact ho
    | rt d cs => exact ho
/-- a loop over coded things, by a word that is kept: I (what is done) -/
theorem for_inv {α : Type} {enc : α → D} {f : D → Vs → Cs → R Fl} {Q : Fl → Prop} {xs : List α} {vs : Vs} {cs : Cs} (I : List α → Vs → Cs → Prop) (h0 : I [] vs cs)
    (hs : ∀ p x r vs cs, xs = p ++ x :: r → I p vs cs → wp (f (enc x) vs cs) (turnK (I (p ++ [x])) Q)) (he : ∀ vs cs, I xs vs cs → Q (.nx vs cs)) : wp (forLoop f (xs.map enc) vs cs) Q :=
  for_inv0 I hs he xs [] vs cs rfl h0
/-- a loop over any data -/
theorem for_any {f : D → Vs → Cs → R Fl} {Q : Fl → Prop} {xs : List D} {vs : Vs} {cs : Cs} (I : List D → Vs → Cs → Prop) (h0 : I [] vs cs)
    (hs : ∀ p x r vs cs, xs = p ++ x :: r → I p vs cs → wp (f x vs cs) (turnK (I (p ++ [x])) Q)) (he : ∀ vs cs, I xs vs cs → Q (.nx vs cs)) : wp (forLoop f xs vs cs) Q := by
  have := for_inv (enc := fun x : D => x) I h0 hs he
  rwa [List.map_id'] at this
theorem comp_inv0 {α : Type} {enc : α → D} {f : D → Cs → R (Option D × Cs)} {xs : List α} (I : List α → List D → Cs → Prop)
    (hs : ∀ p x r ys cs, xs = p ++ x :: r → I p ys cs → wp (f (enc x) cs) (fun q => I (p ++ [x]) (ys ++ q.1.toList) q.2)) :
    ∀ (r p : List α) (ys : List D) (cs : Cs), xs = p ++ r → I p ys cs → wp (compLoop f (r.map enc) cs) (fun q => I xs (ys ++ q.1) q.2)
  | [], p, ys, cs, e, h0 => by rw [List.map_nil, compLoop, wp_ok, List.append_nil, e, List.append_nil]; exact h0
  | x :: r, p, ys, cs, e, h0 => by
    rw [List.map_cons, compLoop, wp_bind]
    refine wp_mono (hs p x r ys cs e h0) fun o ho => ?_
    obtain ⟨o, cs1⟩ := o
    simp only [wp_bind]
    refine wp_mono (comp_inv0 I hs r (p ++ [x]) (ys ++ o.toList) cs1 (by simpa using e) ho) fun q hq => ?_
    obtain ⟨q, cs2⟩ := q
    simp only [wp_ok]
    cases o with
    | none => simpa using hq
    | some y => simpa using hq
/-- a comprehension over coded things, by a word that is kept: I (what is done) (what came) -/
theorem comp_inv {α : Type} {enc : α → D} {f : D → Cs → R (Option D × Cs)} {Q : List D × Cs → Prop} {xs : List α} {cs : Cs} (I : List α → List D → Cs → Prop) (h0 : I [] [] cs)
    (hs : ∀ p x r ys cs, xs = p ++ x :: r → I p ys cs → wp (f (enc x) cs) (fun q => I (p ++ [x]) (ys ++ q.1.toList) q.2)) (he : ∀ ys cs, I xs ys cs → Q (ys, cs)) : wp (compLoop f (xs.map enc) cs) Q :=
  wp_mono (comp_inv0 I hs xs [] [] cs rfl h0) fun q hq => he q.1 q.2 (by simpa using hq)
/-- a comprehension that changes nothing -/
theorem comp_pure {α : Type} {enc : α → D} {f : D → Cs → R (Option D × Cs)} {Q : List D × Cs → Prop} {xs : List α} {cs : Cs} (g : α → Option D)
    (hs : ∀ x ∈ xs, wp (f (enc x) cs) (fun q => q = (g x, cs))) (he : Q (xs.filterMap g, cs)) : wp (compLoop f (xs.map enc) cs) Q := by
  refine comp_inv (fun p ys cs' => ys = p.filterMap g ∧ cs' = cs) ⟨rfl, rfl⟩ (fun p x r ys cs' e hI => ?_) (fun ys cs' hI => ?_)
  · obtain ⟨rfl, rfl⟩ := hI
    refine wp_mono (hs x (by rw [e]; simp)) fun q hq => ?_
    rw [hq, List.filterMap_append]
    refine ⟨?_, rfl⟩
    cases h : g x <;> simp [h]
  · obtain ⟨rfl, rfl⟩ := hI
    exact he
/-- .. and keeps all -/
theorem comp_map {α : Type} {enc : α → D} {f : D → Cs → R (Option D × Cs)} {Q : List D × Cs → Prop} {xs : List α} {cs : Cs} (g : α → D)
    (hs : ∀ x ∈ xs, wp (f (enc x) cs) (fun q => q = (some (g x), cs))) (he : Q (xs.map g, cs)) : wp (compLoop f (xs.map enc) cs) Q :=
  comp_pure (fun x => some (g x)) hs (by rw [List.filterMap_eq_map']; exact he)
/-- .. and sieves -/
theorem comp_filter {α : Type} {enc : α → D} {f : D → Cs → R (Option D × Cs)} {Q : List D × Cs → Prop} {xs : List α} {cs : Cs} (t : α → Bool) (g : α → D)
    (hs : ∀ x ∈ xs, wp (f (enc x) cs) (fun q => q = (if t x = true then some (g x) else none, cs))) (he : Q ((xs.filter t).map g, cs)) : wp (compLoop f (xs.map enc) cs) Q := by
  refine comp_pure (fun x => if t x = true then some (g x) else none) hs ?_
  have : ∀ l : List α, l.filterMap (fun x => if t x = true then some (g x) else none) = (l.filter t).map g := fun l => by
    induction l with
    | nil => rfl
    | cons x l ih => by_cases h : t x = true <;> simp [h, ih]
  rw [this]
  exact he
theorem str_inj {a b : String} : (Str.ofString a = Str.ofString b) ↔ a = b := by
  constructor
  · intro h
    rw [Str.ofString_eq_toList, Str.ofString_eq_toList] at h
    have h1 : (a.toList.map Char.toNat) = (b.toList.map Char.toNat) := by
      have := congrArg (fun z : Str => z.cps.toList) h
      simpa using this
    have h2 : a.toList = b.toList := by
      refine List.map_inj_right (f := Char.toNat) ?_ |>.mp h1
      intro x y hxy
      exact Char.toNat_inj.mp hxy
    exact String.toList_inj.mp h2
  · intro h; rw [h]
end LP
set_option maxRecDepth 100000
set_option linter.all false
namespace LP.T
open PySem LP L2

/- tupled: 0 thing 1 part -/
def b_tupled : S := (.ret (.ife (.isi (.var 0) [.list, .tuple]) (.o1 .tup (.comp (.nm 1) (.var 0) (.lit (.bool true)) (.call 0 [] (.cons (.var 1) .nil)))) (.var 0)))
/- keeps: 0 spot 1 condition 2 area 3 inside -/
def b_keeps : S := (.ret (.o1 .all (.comp (.tp [2, 3]) (.var 1) (.lit (.bool true)) (.o2 .eq (.o2 .isin (.var 2) (.var 0)) (.var 3)))))
/- is_in: 0 spot 1 cut 2 condition -/
def b_is_in : S := (.ret (.o1 .any (.comp (.nm 2) (.var 1) (.lit (.bool true)) (.call 1 [] (.cons (.var 0) (.cons (.var 2) .nil))))))
/- owner_after: 0 deed 1 spot 2 owner -/
def b_owner_after : S := (.seq (.ifs (.or (.o2 .notin (.o2 .idx (.var 0) (.lit (.int 0))) (.gl 3)) (.o1 .nt (.call 2 [] (.cons (.var 1) (.cons (.o2 .idx (.var 0) (.o1 .neg (.lit (.int 1)))) .nil))))) (.ret (.var 2)) .nop) (.seq (.ifs (.o2 .eq (.o2 .idx (.var 0) (.lit (.int 0))) (.gl 4)) (.ret (.o2 .idx (.var 0) (.lit (.int 1)))) .nop) (.seq (.ifs (.o2 .eq (.var 2) (.o2 .idx (.var 0) (.lit (.int 1)))) (.ret (.o2 .idx (.var 0) (.lit (.int 2)))) .nop) (.ret (.ife (.and (.o2 .eq (.o2 .idx (.var 0) (.lit (.int 0))) (.gl 5)) (.o2 .eq (.var 2) (.o2 .idx (.var 0) (.lit (.int 2))))) (.o2 .idx (.var 0) (.lit (.int 1))) (.var 2))))))
/- owners_along: 0 history 1 spot 2 first 3 found 4 deed -/
def b_owners_along : S := (.seq (.cel 3 (.lst (.cons (.var 2) .nil))) (.seq (.fors (.nm 4) (.var 0) (.app 3 (.call 6 [] (.cons (.var 4) (.cons (.var 1) (.cons (.o2 .idx (.pk 3) (.o1 .neg (.lit (.int 1)))) .nil)))))) (.ret (.o1 .tup (.pk 3)))))
/- hits: 0 deeds 1 spot 2 side 3 deed -/
def b_hits : S := (.ret (.comp (.nm 3) (.var 0) (.lit (.bool true)) (.and (.o2 .isin (.o2 .idx (.var 3) (.lit (.int 0))) (.tup (.cons (.gl 9) (.cons (.gl 8) .nil)))) (.call 2 [] (.cons (.var 1) (.cons (.o2 .idx (.var 3) (.var 2)) .nil))))))
/- turned: 0 deeds 1 starts 2 mine 3 goals 4 its 5 found 6 place 7 deed 8 now -/
def b_turned : S := (.seq (.cel 5 (.lst (.cons (.lit (.bool false)) .nil))) (.seq (.fors (.tp [6, 7]) (.enum (.var 0)) (.seq (.asg 8 (.o2 .idx (.pk 5) (.o1 .neg (.lit (.int 1))))) (.seq (.ifs (.and (.o2 .idx (.var 1) (.var 6)) (.o2 .idx (.var 3) (.var 6))) (.asg 8 (.o2 .eq (.o2 .idx (.var 7) (.lit (.int 0))) (.gl 9))) .nop) (.app 5 (.and (.var 8) (.o2 .ne (.o2 .idx (.var 2) (.o2 .add (.var 6) (.lit (.int 1)))) (.o2 .idx (.var 4) (.o2 .add (.var 6) (.lit (.int 1)))))))))) (.ret (.o1 .tup (.pk 5)))))
/- way_along: 0 history 1 near 2 first 3 far 4 last 5 deeds 6 start 7 goal 8 mine 9 its -/
def b_way_along : S := (.seq (.par [5, 6, 7] [] (.cons (.call 0 [] (.cons (.var 0) .nil)) (.cons (.call 0 [] (.cons (.var 1) .nil)) (.cons (.call 0 [] (.cons (.var 3) .nil)) .nil)))) (.seq (.par [8, 9] [] (.cons (.call 7 [] (.cons (.var 5) (.cons (.var 6) (.cons (.var 2) .nil)))) (.cons (.call 7 [] (.cons (.var 5) (.cons (.var 7) (.cons (.var 4) .nil)))) .nil))) (.ret (.call 11 [] (.cons (.var 5) (.cons (.call 10 [] (.cons (.var 5) (.cons (.var 6) (.cons (.lit (.int 1)) .nil)))) (.cons (.var 8) (.cons (.call 10 [] (.cons (.var 5) (.cons (.var 7) (.cons (.lit (.int 2)) .nil)))) (.cons (.var 9) .nil)))))))))
/- way_behind: 0 history 1 near 2 first 3 far 4 last -/
def b_way_behind : S := (.ret (.o2 .idx (.call 12 [] (.cons (.var 0) (.cons (.var 1) (.cons (.var 2) (.cons (.var 3) (.cons (.var 4) .nil)))))) (.o1 .neg (.lit (.int 1)))))
/- _law_box: 0 _law_script 1 _law_k 2 _law_cell -/
def b_law_box : S := (.seq (.asg 2 (.ife (.o2 .lt (.var 1) (.o1 .len (.var 0))) (.o2 .idx (.var 0) (.var 1)) (.lit (.int 0)))) (.ret (.lst (.cons (.o2 .mul (.o1 .abs (.var 2)) (.o1 .int (.o2 .ge (.o1 .abs (.var 2)) (.o2 .pow (.lit (.int 10)) (.lit (.int 18)))))) (.cons (.o2 .add (.o2 .add (.o2 .mod (.o1 .int (.var 2)) (.lit (.int 2305843009213693951))) (.o2 .mul (.lit (.int 39373)) (.var 1))) (.lit (.int 1071018))) (.cons (.lit (.int 0)) .nil))))))
/- _law_take: 0 _law_box_here 1 _law_below_so 2 _law_drawn 3 _law_once 4 _law_its 5 _law_twice -/
def b_law_take : S := (.seq (.ifs (.o2 .gt (.o2 .idx (.pk 0) (.lit (.int 0))) (.lit (.int 0))) (.seq (.asg 2 (.o2 .mod (.o1 .int (.o2 .idx (.pk 0) (.lit (.int 0)))) (.var 1))) (.seq (.setx 0 (.lit (.int 0)) (.o2 .fdiv (.o2 .idx (.pk 0) (.lit (.int 0))) (.var 1))) (.ret (.var 2)))) .nop) (.seq (.setx 0 (.lit (.int 2)) (.o2 .add (.o2 .idx (.pk 0) (.lit (.int 2))) (.lit (.int 1)))) (.seq (.asg 3 (.o2 .mod (.o1 .int (.o2 .mul (.o2 .add (.o2 .idx (.pk 0) (.lit (.int 1))) (.o2 .mul (.lit (.int 48271)) (.o2 .idx (.pk 0) (.lit (.int 2))))) (.o2 .add (.lit (.int 39373)) (.o2 .idx (.pk 0) (.lit (.int 2)))))) (.lit (.int 2147483647)))) (.seq (.asg 4 (.o2 .add (.o2 .mod (.o1 .int (.var 3)) (.lit (.int 40009))) (.lit (.int 7)))) (.seq (.asg 5 (.o2 .mod (.o1 .int (.o2 .mul (.o2 .add (.o2 .add (.var 3) (.o2 .idx (.pk 0) (.lit (.int 2)))) (.o2 .fdiv (.o2 .idx (.pk 0) (.lit (.int 1))) (.lit (.int 1000003)))) (.var 4))) (.lit (.int 2147483629)))) (.ret (.o2 .mod (.o1 .int (.o2 .fdiv (.o2 .mod (.o1 .int (.o2 .add (.o2 .mul (.var 5) (.lit (.int 48271))) (.var 3))) (.lit (.int 2147483587))) (.lit (.int 64)))) (.var 1))))))))
/- _law_cells: 0 _law_script 1 _law_top_so 2 _law_cells_so 3 _law_k 4 _law_cell 5 _law_at_so -/
def b_law_cells : S := (.seq (.cel 2 (.or (.o1 .lst (.sl (.var 0) .nob (.var 1))) (.lst (.cons (.lit (.int 0)) .nil)))) (.seq (.fors (.tp [3, 4]) (.enum (.sl (.var 0) (.var 1) (.lit (.int 63)))) (.seq (.asg 5 (.o2 .mod (.o1 .int (.var 3)) (.var 1))) (.setx 2 (.var 5) (.o2 .add (.o2 .idx (.pk 2) (.var 5)) (.o2 .mul (.var 4) (.o2 .add (.var 3) (.lit (.int 2)))))))) (.retc 2)))
/- _law_same: 0 _law_got 1 _law_due 2 _law_mine 3 _law_its -/
def b_law_same : S := (.seq (.ifs (.isi (.var 1) [.list, .tuple]) (.seq (.ifs (.or (.o2 .ne (.isi (.var 0) [.list]) (.isi (.var 1) [.list])) (.o2 .ne (.isi (.var 0) [.tuple]) (.isi (.var 1) [.tuple]))) (.ret (.lit (.bool false))) .nop) (.ret (.and (.o2 .eq (.o1 .len (.var 0)) (.o1 .len (.var 1))) (.o1 .all (.comp (.tp [2, 3]) (.zip (.var 0) (.var 1)) (.lit (.bool true)) (.call 17 [] (.cons (.var 2) (.cons (.var 3) .nil)))))))) .nop) (.seq (.ifs (.or (.o1 .isN (.var 1)) (.isi (.var 1) [.bool, .str])) (.ret (.and (.o2 .eq (.var 0) (.var 1)) (.and (.o2 .eq (.isi (.var 0) [.bool]) (.isi (.var 1) [.bool])) (.o2 .eq (.o1 .isN (.var 0)) (.o1 .isN (.var 1)))))) .nop) (.ret (.and (.isi (.var 0) [.int]) (.and (.o1 .nt (.isi (.var 0) [.bool])) (.o2 .eq (.var 0) (.var 1)))))))
/- _law_lists: 0 _law_matter_so 1 _law_bit -/
def b_law_lists : S := (.ret (.ife (.isi (.var 0) [.list, .tuple]) (.comp (.nm 1) (.var 0) (.lit (.bool true)) (.call 18 [] (.cons (.var 1) .nil))) (.var 0)))
/- _law_of: 0 _law_box_here 1 _law_pool_so -/
def b_law_of : S := (.ret (.o2 .idx (.var 1) (.call 15 [0] (.cons (.o1 .len (.var 1)) .nil))))
/- _law_spots: 0 _law_areas_so 1 _law_found 2 _law_tag 3 _law_own -/
def b_law_spots : S := (.seq (.asg 1 (.lst (.cons (.tup .nil) .nil))) (.seq (.fors (.nm 2) (.var 0) (.asg 1 (.o2 .add (.var 1) (.comp (.nm 3) (.var 1) (.lit (.bool true)) (.o2 .add (.var 3) (.tup (.cons (.var 2) .nil))))))) (.ret (.o1 .srt (.var 1)))))
/- _law_in: 0 _law_spot_so 1 _law_cut_so 2 _law_own 3 _law_tag 4 _law_side_so -/
def b_law_in : S := (.seq (.fors (.nm 2) (.var 1) (.ifs (.o2 .eq (.comp (.tp [3, 4]) (.var 2) (.o2 .ne (.o2 .isin (.var 3) (.var 0)) (.var 4)) (.var 3)) (.lst .nil)) (.ret (.lit (.bool true))) .nop)) (.ret (.lit (.bool false))))
/- _law_let: 0 _law_chart_so 1 _law_own -/
def b_law_let : S := (.ret (.comp (.nm 1) (.call 20 [] (.cons (.o2 .idx (.var 0) (.lit (.int 0))) .nil)) (.o1 .nt (.call 21 [] (.cons (.var 1) (.cons (.o2 .idx (.var 0) (.lit (.int 1))) .nil)))) (.var 1)))
/- _law_clause: 0 _law_box_here 1 _law_areas_so 2 _law_ways_so 3 _law_tag 4 _law_way_so -/
def b_law_clause : S := (.seq (.asg 2 (.comp (.nm 3) (.var 1) (.lit (.bool true)) (.tup (.cons (.var 3) (.cons (.call 15 [0] (.cons (.lit (.int 4)) .nil)) .nil))))) (.ret (.o1 .tup (.comp (.tp [3, 4]) (.var 2) (.o2 .lt (.var 4) (.lit (.int 2))) (.tup (.cons (.var 3) (.cons (.o2 .eq (.var 4) (.lit (.int 1))) .nil)))))))
/- _law_cut: 0 _law_box_here 1 _law_areas_so 2 _law_most_so 3 _law_turn -/
def b_law_cut : S := (.ret (.o1 .tup (.o1 .sset (.comp (.nm 3) (.rng1 (.call 15 [0] (.cons (.o2 .add (.var 2) (.lit (.int 1))) .nil))) (.lit (.bool true)) (.call 23 [0] (.cons (.var 1) .nil))))))
/- _law_chart: 0 _law_box_here 1 _law_many_so 2 _law_areas_so 3 _law_bare_so 4 _law_turn 5 _law_own -/
def b_law_chart : S := (.seq (.asg 2 (.o1 .srt (.sl (.lst (.cons (.lit (.str (Str.ofString "m"))) (.cons (.lit (.str (Str.ofString "b"))) (.cons (.lit (.str (Str.ofString "x"))) (.cons (.lit (.str (Str.ofString "aa"))) (.cons (.lit (.str (Str.ofString "k"))) .nil)))))) .nob (.o2 .sub (.var 1) (.o1 .int (.o2 .eq (.call 15 [0] (.cons (.lit (.int 6)) .nil)) (.lit (.int 0)))))))) (.seq (.asg 3 (.comp (.nm 4) (.rng1 (.call 15 [0] (.cons (.lit (.int 4)) .nil))) (.lit (.bool true)) (.call 23 [0] (.cons (.var 2) .nil)))) (.ret (.tup (.cons (.o1 .tup (.var 2)) (.cons (.o1 .tup (.o1 .sset (.comp (.nm 5) (.var 3) (.o2 .gt (.o1 .len (.var 5)) (.lit (.int 1))) (.var 5)))) .nil))))))
/- _law_deed: 0 _law_box_here 1 _law_areas_so 2 _law_sorts_so 3 _law_sort_so 4 _law_cut_so 5 _law_mine 6 _law_its 7 _law_tag 8 _law_names_so 9 _law_name_so -/
def b_law_deed : S := (.seq (.par [3, 4] [] (.cons (.call 19 [0] (.cons (.var 2) .nil)) (.cons (.call 24 [0] (.cons (.var 1) (.cons (.lit (.int 2)) .nil))) .nil))) (.seq (.asg 5 (.call 19 [0] (.cons (.lst (.cons (.lit (.str (Str.ofString "cy"))) (.cons (.lit (.str (Str.ofString "ann"))) (.cons (.lit (.str (Str.ofString "bob"))) .nil)))) .nil))) (.seq (.asg 6 (.call 19 [0] (.cons (.comp (.nm 7) (.lst (.cons (.lit (.str (Str.ofString "cy"))) (.cons (.lit (.str (Str.ofString "ann"))) (.cons (.lit (.str (Str.ofString "bob"))) (.cons (.lit (.str (Str.ofString "eve"))) .nil))))) (.o2 .ne (.var 7) (.var 5)) (.var 7)) .nil))) (.seq (.ifs (.o2 .isin (.var 3) (.tup (.cons (.lit (.str (Str.ofString "give"))) (.cons (.lit (.str (Str.ofString "swap"))) (.cons (.lit (.str (Str.ofString "whole"))) .nil))))) (.ret (.tup (.cons (.var 3) (.cons (.var 5) (.cons (.var 6) (.cons (.var 4) .nil)))))) .nop) (.seq (.ifs (.o2 .eq (.var 3) (.lit (.str (Str.ofString "vest")))) (.ret (.tup (.cons (.var 3) (.cons (.var 6) (.cons (.var 4) .nil))))) .nop) (.seq (.ifs (.o2 .isin (.var 3) (.tup (.cons (.lit (.str (Str.ofString "way"))) (.cons (.lit (.str (Str.ofString "end"))) .nil)))) (.ret (.tup (.cons (.var 3) (.cons (.var 4) (.cons (.call 24 [0] (.cons (.var 1) (.cons (.lit (.int 2)) .nil))) .nil))))) .nop) (.seq (.asg 8 (.lst (.cons (.lit (.str (Str.ofString "q"))) (.cons (.lit (.str (Str.ofString "p"))) (.cons (.lit (.str (Str.ofString "r"))) .nil))))) (.seq (.asg 9 (.call 19 [0] (.cons (.var 8) .nil))) (.seq (.ifs (.o2 .eq (.var 3) (.lit (.str (Str.ofString "yield")))) (.ret (.tup (.cons (.var 3) (.cons (.var 9) (.cons (.call 19 [0] (.cons (.comp (.nm 7) (.var 8) (.o2 .ne (.var 7) (.var 9)) (.var 7)) .nil)) (.cons (.var 4) .nil)))))) .nop) (.ret (.tup (.cons (.var 3) (.cons (.var 9) (.cons (.var 4) .nil))))))))))))))
/- _law_history: 0 _law_box_here 1 _law_areas_so 2 _law_sorts_so 3 _law_most_so 4 _law_turn -/
def b_law_history : S := (.ret (.o1 .tup (.comp (.nm 4) (.rng1 (.call 15 [0] (.cons (.o2 .add (.var 3) (.lit (.int 1))) .nil))) (.lit (.bool true)) (.call 26 [0] (.cons (.var 1) (.cons (.var 2) .nil))))))
/- _law_side: 0 _law_tag 1 _law_side_so -/
def b_law_side : S := (.ret (.tup (.cons (.tup (.cons (.tup (.cons (.var 0) (.cons (.var 1) .nil))) .nil)) .nil)))
/- _law_owner: 0 _law_deed_so 1 _law_spot_so 2 _law_own -/
def b_law_owner : S := (.seq (.ifs (.or (.o2 .notin (.o2 .idx (.var 0) (.lit (.int 0))) (.tup (.cons (.lit (.str (Str.ofString "give"))) (.cons (.lit (.str (Str.ofString "swap"))) (.cons (.lit (.str (Str.ofString "vest"))) .nil))))) (.o1 .nt (.call 21 [] (.cons (.var 1) (.cons (.o2 .idx (.var 0) (.o1 .neg (.lit (.int 1)))) .nil))))) (.ret (.var 2)) .nop) (.seq (.ifs (.o2 .eq (.o2 .idx (.var 0) (.lit (.int 0))) (.lit (.str (Str.ofString "vest")))) (.ret (.o2 .idx (.var 0) (.lit (.int 1)))) .nop) (.seq (.ifs (.o2 .eq (.var 2) (.o2 .idx (.var 0) (.lit (.int 1)))) (.ret (.o2 .idx (.var 0) (.lit (.int 2)))) .nop) (.ret (.ife (.and (.o2 .eq (.o2 .idx (.var 0) (.lit (.int 0))) (.lit (.str (Str.ofString "swap")))) (.o2 .eq (.var 2) (.o2 .idx (.var 0) (.lit (.int 2))))) (.o2 .idx (.var 0) (.lit (.int 1))) (.var 2))))))
/- _law_owners: 0 _law_history_so 1 _law_spot_so 2 _law_first_so 3 _law_found 4 _law_deed_so -/
def b_law_owners : S := (.seq (.cel 3 (.lst (.cons (.var 2) .nil))) (.seq (.fors (.nm 4) (.var 0) (.app 3 (.call 29 [] (.cons (.var 4) (.cons (.var 1) (.cons (.o2 .idx (.pk 3) (.o1 .neg (.lit (.int 1)))) .nil)))))) (.retc 3)))
/- _law_hits: 0 _law_history_so 1 _law_spot_so 2 _law_side_so 3 _law_own -/
def b_law_hits : S := (.ret (.comp (.nm 3) (.var 0) (.lit (.bool true)) (.and (.o2 .isin (.o2 .idx (.var 3) (.lit (.int 0))) (.tup (.cons (.lit (.str (Str.ofString "way"))) (.cons (.lit (.str (Str.ofString "end"))) .nil)))) (.call 21 [] (.cons (.var 1) (.cons (.o2 .idx (.var 3) (.var 2)) .nil))))))
/- _law_track: 0 _law_history_so 1 _law_spot_so 2 _law_first_so 3 _law_hits_so 4 _law_side_so -/
def b_law_track : S := (.seq (.asg 3 (.comp (.nm 4) (.tup (.cons (.lit (.int 1)) (.cons (.lit (.int 2)) .nil))) (.lit (.bool true)) (.call 31 [] (.cons (.var 0) (.cons (.var 1) (.cons (.var 4) .nil)))))) (.ret (.tup (.cons (.var 1) (.cons (.var 2) (.cons (.call 30 [] (.cons (.var 0) (.cons (.var 1) (.cons (.var 2) .nil)))) (.cons (.o2 .idx (.var 3) (.lit (.int 0))) (.cons (.o2 .idx (.var 3) (.lit (.int 1))) .nil))))))))
/- _law_truths: 0 _law_history_so 1 _law_mine 2 _law_its 3 _law_found 4 _law_k 5 _law_deed_so 6 _law_now_so -/
def b_law_truths : S := (.seq (.cel 3 (.lst (.cons (.lit (.bool false)) .nil))) (.seq (.fors (.tp [4, 5]) (.enum (.var 0)) (.seq (.asg 6 (.ife (.and (.o2 .idx (.o2 .idx (.var 1) (.lit (.int 3))) (.var 4)) (.o2 .idx (.o2 .idx (.var 2) (.lit (.int 4))) (.var 4))) (.o2 .eq (.o2 .idx (.var 5) (.lit (.int 0))) (.lit (.str (Str.ofString "way")))) (.o2 .idx (.pk 3) (.o1 .neg (.lit (.int 1)))))) (.app 3 (.and (.var 6) (.o2 .ne (.o2 .idx (.o2 .idx (.var 1) (.lit (.int 2))) (.o2 .add (.var 4) (.lit (.int 1)))) (.o2 .idx (.o2 .idx (.var 2) (.lit (.int 2))) (.o2 .add (.var 4) (.lit (.int 1))))))))) (.ret (.o1 .tup (.pk 3)))))
/- _law_case_right: 0 _law_history_so 1 _law_start_so 2 _law_first_so 3 _law_goal_so 4 _law_last_so 5 _law_due 6 _law_soft 7 _law_got -/
def b_law_case_right : S := (.seq (.asg 5 (.call 33 [] (.cons (.var 0) (.cons (.call 32 [] (.cons (.var 0) (.cons (.var 1) (.cons (.var 2) .nil)))) (.cons (.call 32 [] (.cons (.var 0) (.cons (.var 3) (.cons (.var 4) .nil)))) .nil))))) (.seq (.asg 6 (.lst (.cons (.call 18 [] (.cons (.var 0) .nil)) (.cons (.o1 .lst (.var 1)) (.cons (.o1 .lst (.var 3)) .nil))))) (.seq (.cel 7 (.lst (.cons (.call 12 [] (.cons (.var 0) (.cons (.var 1) (.cons (.var 2) (.cons (.var 3) (.cons (.var 4) .nil)))))) .nil))) (.seq (.app 7 (.call 13 [] (.cons (.var 0) (.cons (.var 1) (.cons (.var 2) (.cons (.var 3) (.cons (.var 4) .nil))))))) (.seq (.app 7 (.callk 12 [2, 1, 4, 3, 0] (.cons (.var 4) (.cons (.o2 .idx (.var 6) (.lit (.int 1))) (.cons (.o2 .idx (.var 6) (.lit (.int 0))) (.cons (.o2 .idx (.var 6) (.lit (.int 2))) (.cons (.var 2) .nil))))))) (.seq (.app 7 (.var 6)) (.seq (.app 7 (.callk 13 [4, 3, 2, 1, 0] (.cons (.var 4) (.cons (.var 3) (.cons (.var 2) (.cons (.var 1) (.cons (.o2 .idx (.var 6) (.lit (.int 0))) .nil))))))) (.ret (.call 17 [] (.cons (.pk 7) (.cons (.lst (.cons (.var 5) (.cons (.o2 .idx (.var 5) (.o1 .neg (.lit (.int 1)))) (.cons (.var 5) (.cons (.lst (.cons (.call 18 [] (.cons (.var 0) .nil)) (.cons (.o1 .lst (.var 1)) (.cons (.o1 .lst (.var 3)) .nil)))) (.cons (.o2 .idx (.var 5) (.o1 .neg (.lit (.int 1)))) .nil)))))) .nil)))))))))))
/- _law_by_hand_right: 0 _law_all_so 1 _law_side_so 2 _law_deeds_so 3 _law_mine 4 _law_inner 5 _law_its 6 _law_both_so 7 _law_got 8 _law_due 9 _law_some_so 10 _law_own -/
def b_law_by_hand_right : S := (.seq (.par [0, 1] [] (.cons (.tup (.cons (.tup .nil) .nil)) (.cons (.tup (.cons (.tup (.cons (.tup (.cons (.lit (.str (Str.ofString "a"))) (.cons (.lit (.bool false)) .nil))) (.cons (.tup (.cons (.lit (.str (Str.ofString "b"))) (.cons (.lit (.bool true)) .nil))) .nil))) .nil)) .nil))) (.seq (.asg 2 (.lst (.cons (.tup (.cons (.lit (.str (Str.ofString "way"))) (.cons (.call 28 [] (.cons (.lit (.str (Str.ofString "b"))) (.cons (.lit (.bool true)) .nil))) (.cons (.call 28 [] (.cons (.lit (.str (Str.ofString "c"))) (.cons (.lit (.bool true)) .nil))) .nil)))) (.cons (.tup (.cons (.lit (.str (Str.ofString "give"))) (.cons (.lit (.str (Str.ofString "ann"))) (.cons (.lit (.str (Str.ofString "bob"))) (.cons (.call 28 [] (.cons (.lit (.str (Str.ofString "a"))) (.cons (.lit (.bool true)) .nil))) .nil))))) .nil)))) (.seq (.asg 2 (.o2 .add (.var 2) (.lst (.cons (.tup (.cons (.lit (.str (Str.ofString "charge"))) (.cons (.lit (.str (Str.ofString "ann"))) (.cons (.var 0) .nil)))) (.cons (.tup (.cons (.lit (.str (Str.ofString "swap"))) (.cons (.lit (.str (Str.ofString "bob"))) (.cons (.lit (.str (Str.ofString "cy"))) (.cons (.call 28 [] (.cons (.lit (.str (Str.ofString "c"))) (.cons (.lit (.bool true)) .nil))) .nil))))) .nil))))) (.seq (.asg 2 (.o1 .tup (.o2 .add (.var 2) (.lst (.cons (.tup (.cons (.lit (.str (Str.ofString "end"))) (.cons (.call 28 [] (.cons (.lit (.str (Str.ofString "a"))) (.cons (.lit (.bool true)) .nil))) (.cons (.var 0) .nil)))) (.cons (.tup (.cons (.lit (.str (Str.ofString "vest"))) (.cons (.lit (.str (Str.ofString "cy"))) (.cons (.var 1) .nil)))) .nil)))))) (.seq (.par [3, 4, 5, 6] [] (.cons (.tup (.cons (.lit (.str (Str.ofString "b"))) .nil)) (.cons (.tup (.cons (.lit (.str (Str.ofString "a"))) (.cons (.lit (.str (Str.ofString "b"))) .nil))) (.cons (.tup (.cons (.lit (.str (Str.ofString "c"))) .nil)) (.cons (.tup (.cons (.lit (.str (Str.ofString "b"))) (.cons (.lit (.str (Str.ofString "c"))) .nil))) .nil))))) (.seq (.cel 7 (.lst (.cons (.call 12 [] (.cons (.var 2) (.cons (.var 3) (.cons (.lit (.str (Str.ofString "ann"))) (.cons (.var 5) (.cons (.lit (.str (Str.ofString "bob"))) .nil)))))) (.cons (.call 12 [] (.cons (.var 2) (.cons (.var 4) (.cons (.lit (.str (Str.ofString "ann"))) (.cons (.var 5) (.cons (.lit (.str (Str.ofString "bob"))) .nil)))))) .nil)))) (.seq (.asg 8 (.lst (.cons (.tup (.cons (.lit (.bool false)) (.cons (.lit (.bool true)) (.cons (.lit (.bool true)) (.cons (.lit (.bool true)) (.cons (.lit (.bool true)) (.cons (.lit (.bool true)) (.cons (.lit (.bool false)) .nil)))))))) (.cons (.tup (.cons (.lit (.bool false)) (.cons (.lit (.bool true)) (.cons (.lit (.bool false)) (.cons (.lit (.bool false)) (.cons (.lit (.bool false)) (.cons (.lit (.bool false)) (.cons (.lit (.bool false)) .nil)))))))) .nil)))) (.seq (.cel 7 (.o2 .add (.pk 7) (.lst (.cons (.call 12 [] (.cons (.var 2) (.cons (.var 4) (.cons (.lit (.str (Str.ofString "eve"))) (.cons (.var 5) (.cons (.lit (.str (Str.ofString "eve"))) .nil)))))) (.cons (.call 12 [] (.cons (.var 2) (.cons (.var 6) (.cons (.lit (.str (Str.ofString "x"))) (.cons (.var 6) (.cons (.lit (.str (Str.ofString "y"))) .nil)))))) .nil))))) (.seq (.asg 8 (.o2 .add (.var 8) (.lst (.cons (.o2 .mul (.tup (.cons (.lit (.bool false)) .nil)) (.lit (.int 7))) (.cons (.tup (.cons (.lit (.bool false)) (.cons (.lit (.bool true)) (.cons (.lit (.bool true)) (.cons (.lit (.bool true)) (.cons (.lit (.bool true)) (.cons (.lit (.bool true)) (.cons (.lit (.bool false)) .nil)))))))) .nil))))) (.seq (.cel 7 (.o2 .add (.pk 7) (.lst (.cons (.call 12 [] (.cons (.var 2) (.cons (.var 3) (.cons (.lit (.str (Str.ofString "ann"))) (.cons (.var 3) (.cons (.lit (.str (Str.ofString "bob"))) .nil)))))) (.cons (.call 12 [] (.cons (.var 2) (.cons (.var 4) (.cons (.lit (.str (Str.ofString "x"))) (.cons (.var 6) (.cons (.lit (.str (Str.ofString "cy"))) .nil)))))) .nil))))) (.seq (.asg 8 (.o2 .add (.var 8) (.lst (.cons (.o2 .mul (.tup (.cons (.lit (.bool false)) .nil)) (.lit (.int 7))) (.cons (.tup (.cons (.lit (.bool false)) (.cons (.lit (.bool true)) (.cons (.lit (.bool true)) (.cons (.lit (.bool true)) (.cons (.lit (.bool true)) (.cons (.lit (.bool false)) (.cons (.lit (.bool false)) .nil)))))))) .nil))))) (.seq (.cel 7 (.o2 .add (.pk 7) (.lst (.cons (.call 12 [] (.cons (.tup .nil) (.cons (.tup .nil) (.cons (.lit (.str (Str.ofString "x"))) (.cons (.tup .nil) (.cons (.lit (.str (Str.ofString "y"))) .nil)))))) (.cons (.call 13 [] (.cons (.tup .nil) (.cons (.tup .nil) (.cons (.lit (.str (Str.ofString "x"))) (.cons (.tup .nil) (.cons (.lit (.str (Str.ofString "y"))) .nil)))))) .nil))))) (.seq (.app 7 (.call 13 [] (.cons (.var 2) (.cons (.var 3) (.cons (.lit (.str (Str.ofString "x"))) (.cons (.var 5) (.cons (.lit (.str (Str.ofString "y"))) .nil))))))) (.seq (.asg 8 (.o2 .add (.var 8) (.lst (.cons (.tup (.cons (.lit (.bool false)) .nil)) (.cons (.lit (.bool false)) (.cons (.lit (.bool true)) .nil)))))) (.seq (.ifs (.or (.o1 .nt (.call 17 [] (.cons (.pk 7) (.cons (.var 8) .nil)))) (.o1 .nt (.call 35 [] (.cons (.var 0) (.cons (.var 3) (.cons (.var 4) (.cons (.var 5) .nil))))))) (.ret (.lit (.bool false))) .nop) (.seq (.asg 9 (.lst (.cons (.tup (.cons (.var 3) (.cons (.lit (.str (Str.ofString "ann"))) (.cons (.var 5) (.cons (.lit (.str (Str.ofString "bob"))) .nil))))) (.cons (.tup (.cons (.var 4) (.cons (.lit (.str (Str.ofString "cy"))) (.cons (.var 6) (.cons (.lit (.str (Str.ofString "bob"))) .nil))))) (.cons (.tup (.cons (.var 6) (.cons (.lit (.str (Str.ofString "x"))) (.cons (.var 6) (.cons (.lit (.str (Str.ofString "y"))) .nil))))) .nil))))) (.ret (.o1 .all (.comp (.nm 10) (.var 9) (.lit (.bool true)) (.call 34 [] (.cons (.var 2) (.cons (.o2 .idx (.var 10) (.lit (.int 0))) (.cons (.o2 .idx (.var 10) (.lit (.int 1))) (.cons (.o2 .idx (.var 10) (.lit (.int 2))) (.cons (.o2 .idx (.var 10) (.lit (.int 3))) .nil)))))))))))))))))))))))))
/- _law_more_right: 0 _law_all_so 1 _law_mine 2 _law_inner 3 _law_its 4 _law_row_so 5 _law_sold_so 6 _law_back_so 7 _law_got 8 _law_due 9 _law_one_so -/
def b_law_more_right : S := (.seq (.asg 4 (.tup (.cons (.tup (.cons (.lit (.str (Str.ofString "way"))) (.cons (.var 0) (.cons (.var 0) .nil)))) (.cons (.tup (.cons (.lit (.str (Str.ofString "end"))) (.cons (.var 0) (.cons (.var 0) .nil)))) (.cons (.tup (.cons (.lit (.str (Str.ofString "way"))) (.cons (.var 0) (.cons (.var 0) .nil)))) .nil))))) (.seq (.asg 5 (.tup (.cons (.o2 .idx (.var 4) (.lit (.int 0))) (.cons (.tup (.cons (.lit (.str (Str.ofString "give"))) (.cons (.lit (.str (Str.ofString "ann"))) (.cons (.lit (.str (Str.ofString "bob"))) (.cons (.call 28 [] (.cons (.lit (.str (Str.ofString "a"))) (.cons (.lit (.bool true)) .nil))) .nil))))) .nil)))) (.seq (.asg 6 (.tup (.cons (.o2 .idx (.var 4) (.lit (.int 0))) (.cons (.tup (.cons (.lit (.str (Str.ofString "give"))) (.cons (.lit (.str (Str.ofString "ann"))) (.cons (.lit (.str (Str.ofString "bob"))) (.cons (.tup (.cons (.tup .nil) .nil)) .nil))))) (.cons (.tup (.cons (.lit (.str (Str.ofString "swap"))) (.cons (.lit (.str (Str.ofString "bob"))) (.cons (.lit (.str (Str.ofString "eve"))) (.cons (.call 28 [] (.cons (.lit (.str (Str.ofString "a"))) (.cons (.lit (.bool true)) .nil))) .nil))))) .nil))))) (.seq (.cel 7 (.lst (.cons (.call 12 [] (.cons (.var 4) (.cons (.tup .nil) (.cons (.lit (.str (Str.ofString "x"))) (.cons (.tup .nil) (.cons (.lit (.str (Str.ofString "y"))) .nil)))))) (.cons (.call 12 [] (.cons (.var 5) (.cons (.var 2) (.cons (.lit (.str (Str.ofString "ann"))) (.cons (.var 3) (.cons (.lit (.str (Str.ofString "ann"))) .nil)))))) .nil)))) (.seq (.cel 8 (.lst (.cons (.tup (.cons (.lit (.bool false)) (.cons (.lit (.bool true)) (.cons (.lit (.bool false)) (.cons (.lit (.bool true)) .nil))))) (.cons (.tup (.cons (.lit (.bool false)) (.cons (.lit (.bool false)) (.cons (.lit (.bool false)) .nil)))) .nil)))) (.seq (.cel 7 (.o2 .add (.pk 7) (.lst (.cons (.call 12 [] (.cons (.var 6) (.cons (.var 2) (.cons (.lit (.str (Str.ofString "ann"))) (.cons (.var 3) (.cons (.lit (.str (Str.ofString "bob"))) .nil)))))) (.cons (.call 12 [] (.cons (.var 6) (.cons (.var 2) (.cons (.lit (.str (Str.ofString "eve"))) (.cons (.var 3) (.cons (.lit (.str (Str.ofString "cy"))) .nil)))))) .nil))))) (.seq (.cel 8 (.o2 .add (.pk 8) (.lst (.cons (.tup (.cons (.lit (.bool false)) (.cons (.lit (.bool true)) (.cons (.lit (.bool false)) (.cons (.lit (.bool false)) .nil))))) (.cons (.tup (.cons (.lit (.bool false)) (.cons (.lit (.bool true)) (.cons (.lit (.bool true)) (.cons (.lit (.bool true)) .nil))))) .nil))))) (.seq (.asg 9 (.tup (.cons (.tup (.cons (.lit (.str (Str.ofString "way"))) (.cons (.call 28 [] (.cons (.lit (.str (Str.ofString "a"))) (.cons (.lit (.bool true)) .nil))) (.cons (.call 28 [] (.cons (.lit (.str (Str.ofString "a"))) (.cons (.lit (.bool false)) .nil))) .nil)))) (.cons (.tup (.cons (.lit (.str (Str.ofString "lift"))) (.cons (.lit (.str (Str.ofString "x"))) (.cons (.var 0) .nil)))) (.cons (.tup (.cons (.lit (.str (Str.ofString "yield"))) (.cons (.lit (.str (Str.ofString "x"))) (.cons (.lit (.str (Str.ofString "y"))) (.cons (.var 0) .nil))))) .nil))))) (.seq (.cel 7 (.o2 .add (.pk 7) (.lst (.cons (.call 12 [] (.cons (.var 9) (.cons (.var 2) (.cons (.lit (.str (Str.ofString "x"))) (.cons (.var 1) (.cons (.lit (.str (Str.ofString "y"))) .nil)))))) (.cons (.call 12 [] (.cons (.var 9) (.cons (.var 1) (.cons (.lit (.str (Str.ofString "y"))) (.cons (.var 2) (.cons (.lit (.str (Str.ofString "x"))) .nil)))))) .nil))))) (.seq (.cel 8 (.o2 .add (.pk 8) (.lst (.cons (.tup (.cons (.lit (.bool false)) (.cons (.lit (.bool true)) (.cons (.lit (.bool true)) (.cons (.lit (.bool true)) .nil))))) (.cons (.o2 .mul (.tup (.cons (.lit (.bool false)) .nil)) (.lit (.int 4))) .nil))))) (.seq (.app 7 (.call 12 [] (.cons (.o2 .mul (.sl (.var 4) .nob (.lit (.int 2))) (.lit (.int 6))) (.cons (.var 1) (.cons (.lit (.str (Str.ofString "x"))) (.cons (.var 2) (.cons (.lit (.str (Str.ofString "y"))) .nil))))))) (.seq (.app 8 (.o2 .add (.o2 .mul (.tup (.cons (.lit (.bool false)) (.cons (.lit (.bool true)) .nil))) (.lit (.int 6))) (.tup (.cons (.lit (.bool false)) .nil)))) (.ret (.call 17 [] (.cons (.pk 7) (.cons (.pk 8) .nil))))))))))))))))
/- _law_right: 0 _law_box_here 1 _law_turn 2 _law_chart_so 3 _law_sorts_so 4 _law_deeds_so 5 _law_let_so 6 _law_lap 7 _law_own -/
def b_law_right : S := (.seq (.fors (.nm 1) (.rng1 (.lit (.int 2))) (.seq (.asg 2 (.call 25 [0] (.cons (.lit (.int 3)) .nil))) (.seq (.asg 3 (.lst (.cons (.lit (.str (Str.ofString "way"))) (.cons (.lit (.str (Str.ofString "way"))) (.cons (.lit (.str (Str.ofString "end"))) (.cons (.lit (.str (Str.ofString "give"))) (.cons (.lit (.str (Str.ofString "swap"))) (.cons (.lit (.str (Str.ofString "vest"))) (.cons (.lit (.str (Str.ofString "charge"))) .nil))))))))) (.seq (.par [4, 5] [] (.cons (.call 27 [0] (.cons (.o2 .idx (.var 2) (.lit (.int 0))) (.cons (.var 3) (.cons (.lit (.int 6)) .nil)))) (.cons (.call 22 [] (.cons (.var 2) .nil)) .nil))) (.fors (.nm 6) (.rng1 (.o2 .mul (.lit (.int 4)) (.o1 .int (.o2 .ne (.var 5) (.lst .nil))))) (.seq (.asg 7 (.lst (.cons (.call 19 [0] (.cons (.var 5) .nil)) (.cons (.call 19 [0] (.cons (.lst (.cons (.lit (.str (Str.ofString "ann"))) (.cons (.lit (.str (Str.ofString "bob"))) (.cons (.lit (.str (Str.ofString "cy"))) (.cons (.lit (.str (Str.ofString "zz"))) .nil))))) .nil)) .nil)))) (.seq (.asg 7 (.o2 .add (.var 7) (.lst (.cons (.call 19 [0] (.cons (.var 5) .nil)) (.cons (.call 19 [0] (.cons (.lst (.cons (.lit (.str (Str.ofString "ann"))) (.cons (.lit (.str (Str.ofString "bob"))) (.cons (.lit (.str (Str.ofString "cy"))) (.cons (.lit (.str (Str.ofString "zz"))) .nil))))) .nil)) .nil))))) (.ifs (.o1 .nt (.call 34 [] (.cons (.var 4) (.cons (.o2 .idx (.var 7) (.lit (.int 0))) (.cons (.o2 .idx (.var 7) (.lit (.int 1))) (.cons (.o2 .idx (.var 7) (.lit (.int 2))) (.cons (.o2 .idx (.var 7) (.lit (.int 3))) .nil))))))) (.ret (.lit (.bool false))) .nop)))))))) (.ret (.lit (.bool true))))
/- law: 0 _law_script 1 _law_cells_so 2 _law_k -/
def b_law : S := (.seq (.ifs (.o1 .nt (.call 36 [] .nil)) (.ret (.lit (.bool false))) .nop) (.seq (.asg 1 (.call 16 [] (.cons (.var 0) (.cons (.lit (.int 3)) .nil)))) (.ret (.o1 .all (.comp (.nm 2) (.rng1 (.o1 .len (.var 1))) (.lit (.bool true)) (.callt 37 (.call 14 [] (.cons (.var 1) (.cons (.var 2) .nil))) .nil))))))
def defs : Nat → Option Def
  | 0 => some ⟨0, 1, 2, b_tupled⟩
  | 1 => some ⟨0, 2, 4, b_keeps⟩
  | 2 => some ⟨0, 2, 3, b_is_in⟩
  | 6 => some ⟨0, 3, 3, b_owner_after⟩
  | 7 => some ⟨0, 3, 5, b_owners_along⟩
  | 10 => some ⟨0, 3, 4, b_hits⟩
  | 11 => some ⟨0, 5, 9, b_turned⟩
  | 12 => some ⟨0, 5, 10, b_way_along⟩
  | 13 => some ⟨0, 5, 5, b_way_behind⟩
  | 14 => some ⟨0, 2, 3, b_law_box⟩
  | 15 => some ⟨1, 2, 6, b_law_take⟩
  | 16 => some ⟨0, 2, 6, b_law_cells⟩
  | 17 => some ⟨0, 2, 4, b_law_same⟩
  | 18 => some ⟨0, 1, 2, b_law_lists⟩
  | 19 => some ⟨1, 2, 2, b_law_of⟩
  | 20 => some ⟨0, 1, 4, b_law_spots⟩
  | 21 => some ⟨0, 2, 5, b_law_in⟩
  | 22 => some ⟨0, 1, 2, b_law_let⟩
  | 23 => some ⟨1, 2, 5, b_law_clause⟩
  | 24 => some ⟨1, 3, 4, b_law_cut⟩
  | 25 => some ⟨1, 2, 6, b_law_chart⟩
  | 26 => some ⟨1, 3, 10, b_law_deed⟩
  | 27 => some ⟨1, 4, 5, b_law_history⟩
  | 28 => some ⟨0, 2, 2, b_law_side⟩
  | 29 => some ⟨0, 3, 3, b_law_owner⟩
  | 30 => some ⟨0, 3, 5, b_law_owners⟩
  | 31 => some ⟨0, 3, 4, b_law_hits⟩
  | 32 => some ⟨0, 3, 5, b_law_track⟩
  | 33 => some ⟨0, 3, 7, b_law_truths⟩
  | 34 => some ⟨0, 5, 8, b_law_case_right⟩
  | 36 => some ⟨0, 0, 11, b_law_by_hand_right⟩
  | 35 => some ⟨0, 4, 10, b_law_more_right⟩
  | 37 => some ⟨1, 1, 8, b_law_right⟩
  | 38 => some ⟨0, 1, 3, b_law⟩
  | _ => none
def consts : Nat → Option D
  | 39 => some (.str (Str.ofString "give"))
  | 4 => some (.str (Str.ofString "vest"))
  | 5 => some (.str (Str.ofString "swap"))
  | 3 => some (.tuple [(.str (Str.ofString "give")), (.str (Str.ofString "vest")), (.str (Str.ofString "swap"))])
  | 9 => some (.str (Str.ofString "way"))
  | 8 => some (.str (Str.ofString "end"))
  | _ => none
def prog : Prog := ⟨consts, defs⟩
def lawId : Nat := 38
abbrev GG (n : Nat) : Gx := ⟨prog.consts, evC prog n⟩
theorem GG_cl (n : Nat) : (GG n).cl = evC prog n := rfl
theorem GG_co (n k : Nat) : (GG n).consts k = consts k := rfl
theorem c_tupled {n : Nat} {a0 : D} {Q : D × Cs → Prop} (h : wp (evS (GG n) 0 b_tupled [.v a0, .un] []) (fun r => wp (outOf 0 r) Q)) : wp (evC prog (n + 1) 0 [a0] []) Q := w_evC rfl ⟨rfl, rfl⟩ h
theorem c_keeps {n : Nat} {a0 a1 : D} {Q : D × Cs → Prop} (h : wp (evS (GG n) 0 b_keeps [.v a0, .v a1, .un, .un] []) (fun r => wp (outOf 0 r) Q)) : wp (evC prog (n + 1) 1 [a0, a1] []) Q := w_evC rfl ⟨rfl, rfl⟩ h
theorem c_is_in {n : Nat} {a0 a1 : D} {Q : D × Cs → Prop} (h : wp (evS (GG n) 0 b_is_in [.v a0, .v a1, .un] []) (fun r => wp (outOf 0 r) Q)) : wp (evC prog (n + 1) 2 [a0, a1] []) Q := w_evC rfl ⟨rfl, rfl⟩ h
theorem c_owner_after {n : Nat} {a0 a1 a2 : D} {Q : D × Cs → Prop} (h : wp (evS (GG n) 0 b_owner_after [.v a0, .v a1, .v a2] []) (fun r => wp (outOf 0 r) Q)) : wp (evC prog (n + 1) 6 [a0, a1, a2] []) Q := w_evC rfl ⟨rfl, rfl⟩ h
theorem c_owners_along {n : Nat} {a0 a1 a2 : D} {Q : D × Cs → Prop} (h : wp (evS (GG n) 0 b_owners_along [.v a0, .v a1, .v a2, .un, .un] []) (fun r => wp (outOf 0 r) Q)) : wp (evC prog (n + 1) 7 [a0, a1, a2] []) Q := w_evC rfl ⟨rfl, rfl⟩ h
theorem c_hits {n : Nat} {a0 a1 a2 : D} {Q : D × Cs → Prop} (h : wp (evS (GG n) 0 b_hits [.v a0, .v a1, .v a2, .un] []) (fun r => wp (outOf 0 r) Q)) : wp (evC prog (n + 1) 10 [a0, a1, a2] []) Q := w_evC rfl ⟨rfl, rfl⟩ h
theorem c_turned {n : Nat} {a0 a1 a2 a3 a4 : D} {Q : D × Cs → Prop} (h : wp (evS (GG n) 0 b_turned [.v a0, .v a1, .v a2, .v a3, .v a4, .un, .un, .un, .un] []) (fun r => wp (outOf 0 r) Q)) : wp (evC prog (n + 1) 11 [a0, a1, a2, a3, a4] []) Q := w_evC rfl ⟨rfl, rfl⟩ h
theorem c_way_along {n : Nat} {a0 a1 a2 a3 a4 : D} {Q : D × Cs → Prop} (h : wp (evS (GG n) 0 b_way_along [.v a0, .v a1, .v a2, .v a3, .v a4, .un, .un, .un, .un, .un] []) (fun r => wp (outOf 0 r) Q)) : wp (evC prog (n + 1) 12 [a0, a1, a2, a3, a4] []) Q := w_evC rfl ⟨rfl, rfl⟩ h
theorem c_way_behind {n : Nat} {a0 a1 a2 a3 a4 : D} {Q : D × Cs → Prop} (h : wp (evS (GG n) 0 b_way_behind [.v a0, .v a1, .v a2, .v a3, .v a4] []) (fun r => wp (outOf 0 r) Q)) : wp (evC prog (n + 1) 13 [a0, a1, a2, a3, a4] []) Q := w_evC rfl ⟨rfl, rfl⟩ h
theorem c_law_box {n : Nat} {a0 a1 : D} {Q : D × Cs → Prop} (h : wp (evS (GG n) 0 b_law_box [.v a0, .v a1, .un] []) (fun r => wp (outOf 0 r) Q)) : wp (evC prog (n + 1) 14 [a0, a1] []) Q := w_evC rfl ⟨rfl, rfl⟩ h
theorem c_law_take {n : Nat} {a1 : D} {b0 : List D} {Q : D × Cs → Prop} (h : wp (evS (GG n) 1 b_law_take [.c 0, .v a1, .un, .un, .un, .un] [b0]) (fun r => wp (outOf 1 r) Q)) : wp (evC prog (n + 1) 15 [a1] [b0]) Q := w_evC rfl ⟨rfl, rfl⟩ h
theorem c_law_cells {n : Nat} {a0 a1 : D} {Q : D × Cs → Prop} (h : wp (evS (GG n) 0 b_law_cells [.v a0, .v a1, .un, .un, .un, .un] []) (fun r => wp (outOf 0 r) Q)) : wp (evC prog (n + 1) 16 [a0, a1] []) Q := w_evC rfl ⟨rfl, rfl⟩ h
theorem c_law_same {n : Nat} {a0 a1 : D} {Q : D × Cs → Prop} (h : wp (evS (GG n) 0 b_law_same [.v a0, .v a1, .un, .un] []) (fun r => wp (outOf 0 r) Q)) : wp (evC prog (n + 1) 17 [a0, a1] []) Q := w_evC rfl ⟨rfl, rfl⟩ h
theorem c_law_lists {n : Nat} {a0 : D} {Q : D × Cs → Prop} (h : wp (evS (GG n) 0 b_law_lists [.v a0, .un] []) (fun r => wp (outOf 0 r) Q)) : wp (evC prog (n + 1) 18 [a0] []) Q := w_evC rfl ⟨rfl, rfl⟩ h
theorem c_law_of {n : Nat} {a1 : D} {b0 : List D} {Q : D × Cs → Prop} (h : wp (evS (GG n) 1 b_law_of [.c 0, .v a1] [b0]) (fun r => wp (outOf 1 r) Q)) : wp (evC prog (n + 1) 19 [a1] [b0]) Q := w_evC rfl ⟨rfl, rfl⟩ h
theorem c_law_spots {n : Nat} {a0 : D} {Q : D × Cs → Prop} (h : wp (evS (GG n) 0 b_law_spots [.v a0, .un, .un, .un] []) (fun r => wp (outOf 0 r) Q)) : wp (evC prog (n + 1) 20 [a0] []) Q := w_evC rfl ⟨rfl, rfl⟩ h
theorem c_law_in {n : Nat} {a0 a1 : D} {Q : D × Cs → Prop} (h : wp (evS (GG n) 0 b_law_in [.v a0, .v a1, .un, .un, .un] []) (fun r => wp (outOf 0 r) Q)) : wp (evC prog (n + 1) 21 [a0, a1] []) Q := w_evC rfl ⟨rfl, rfl⟩ h
theorem c_law_let {n : Nat} {a0 : D} {Q : D × Cs → Prop} (h : wp (evS (GG n) 0 b_law_let [.v a0, .un] []) (fun r => wp (outOf 0 r) Q)) : wp (evC prog (n + 1) 22 [a0] []) Q := w_evC rfl ⟨rfl, rfl⟩ h
theorem c_law_clause {n : Nat} {a1 : D} {b0 : List D} {Q : D × Cs → Prop} (h : wp (evS (GG n) 1 b_law_clause [.c 0, .v a1, .un, .un, .un] [b0]) (fun r => wp (outOf 1 r) Q)) : wp (evC prog (n + 1) 23 [a1] [b0]) Q := w_evC rfl ⟨rfl, rfl⟩ h
theorem c_law_cut {n : Nat} {a1 a2 : D} {b0 : List D} {Q : D × Cs → Prop} (h : wp (evS (GG n) 1 b_law_cut [.c 0, .v a1, .v a2, .un] [b0]) (fun r => wp (outOf 1 r) Q)) : wp (evC prog (n + 1) 24 [a1, a2] [b0]) Q := w_evC rfl ⟨rfl, rfl⟩ h
theorem c_law_chart {n : Nat} {a1 : D} {b0 : List D} {Q : D × Cs → Prop} (h : wp (evS (GG n) 1 b_law_chart [.c 0, .v a1, .un, .un, .un, .un] [b0]) (fun r => wp (outOf 1 r) Q)) : wp (evC prog (n + 1) 25 [a1] [b0]) Q := w_evC rfl ⟨rfl, rfl⟩ h
theorem c_law_deed {n : Nat} {a1 a2 : D} {b0 : List D} {Q : D × Cs → Prop} (h : wp (evS (GG n) 1 b_law_deed [.c 0, .v a1, .v a2, .un, .un, .un, .un, .un, .un, .un] [b0]) (fun r => wp (outOf 1 r) Q)) : wp (evC prog (n + 1) 26 [a1, a2] [b0]) Q := w_evC rfl ⟨rfl, rfl⟩ h
theorem c_law_history {n : Nat} {a1 a2 a3 : D} {b0 : List D} {Q : D × Cs → Prop} (h : wp (evS (GG n) 1 b_law_history [.c 0, .v a1, .v a2, .v a3, .un] [b0]) (fun r => wp (outOf 1 r) Q)) : wp (evC prog (n + 1) 27 [a1, a2, a3] [b0]) Q := w_evC rfl ⟨rfl, rfl⟩ h
theorem c_law_side {n : Nat} {a0 a1 : D} {Q : D × Cs → Prop} (h : wp (evS (GG n) 0 b_law_side [.v a0, .v a1] []) (fun r => wp (outOf 0 r) Q)) : wp (evC prog (n + 1) 28 [a0, a1] []) Q := w_evC rfl ⟨rfl, rfl⟩ h
theorem c_law_owner {n : Nat} {a0 a1 a2 : D} {Q : D × Cs → Prop} (h : wp (evS (GG n) 0 b_law_owner [.v a0, .v a1, .v a2] []) (fun r => wp (outOf 0 r) Q)) : wp (evC prog (n + 1) 29 [a0, a1, a2] []) Q := w_evC rfl ⟨rfl, rfl⟩ h
theorem c_law_owners {n : Nat} {a0 a1 a2 : D} {Q : D × Cs → Prop} (h : wp (evS (GG n) 0 b_law_owners [.v a0, .v a1, .v a2, .un, .un] []) (fun r => wp (outOf 0 r) Q)) : wp (evC prog (n + 1) 30 [a0, a1, a2] []) Q := w_evC rfl ⟨rfl, rfl⟩ h
theorem c_law_hits {n : Nat} {a0 a1 a2 : D} {Q : D × Cs → Prop} (h : wp (evS (GG n) 0 b_law_hits [.v a0, .v a1, .v a2, .un] []) (fun r => wp (outOf 0 r) Q)) : wp (evC prog (n + 1) 31 [a0, a1, a2] []) Q := w_evC rfl ⟨rfl, rfl⟩ h
theorem c_law_track {n : Nat} {a0 a1 a2 : D} {Q : D × Cs → Prop} (h : wp (evS (GG n) 0 b_law_track [.v a0, .v a1, .v a2, .un, .un] []) (fun r => wp (outOf 0 r) Q)) : wp (evC prog (n + 1) 32 [a0, a1, a2] []) Q := w_evC rfl ⟨rfl, rfl⟩ h
theorem c_law_truths {n : Nat} {a0 a1 a2 : D} {Q : D × Cs → Prop} (h : wp (evS (GG n) 0 b_law_truths [.v a0, .v a1, .v a2, .un, .un, .un, .un] []) (fun r => wp (outOf 0 r) Q)) : wp (evC prog (n + 1) 33 [a0, a1, a2] []) Q := w_evC rfl ⟨rfl, rfl⟩ h
theorem c_law_case_right {n : Nat} {a0 a1 a2 a3 a4 : D} {Q : D × Cs → Prop} (h : wp (evS (GG n) 0 b_law_case_right [.v a0, .v a1, .v a2, .v a3, .v a4, .un, .un, .un] []) (fun r => wp (outOf 0 r) Q)) : wp (evC prog (n + 1) 34 [a0, a1, a2, a3, a4] []) Q := w_evC rfl ⟨rfl, rfl⟩ h
theorem c_law_by_hand_right {n : Nat} {Q : D × Cs → Prop} (h : wp (evS (GG n) 0 b_law_by_hand_right [.un, .un, .un, .un, .un, .un, .un, .un, .un, .un, .un] []) (fun r => wp (outOf 0 r) Q)) : wp (evC prog (n + 1) 36 [] []) Q := w_evC rfl ⟨rfl, rfl⟩ h
theorem c_law_more_right {n : Nat} {a0 a1 a2 a3 : D} {Q : D × Cs → Prop} (h : wp (evS (GG n) 0 b_law_more_right [.v a0, .v a1, .v a2, .v a3, .un, .un, .un, .un, .un, .un] []) (fun r => wp (outOf 0 r) Q)) : wp (evC prog (n + 1) 35 [a0, a1, a2, a3] []) Q := w_evC rfl ⟨rfl, rfl⟩ h
theorem c_law_right {n : Nat} {b0 : List D} {Q : D × Cs → Prop} (h : wp (evS (GG n) 1 b_law_right [.c 0, .un, .un, .un, .un, .un, .un, .un] [b0]) (fun r => wp (outOf 1 r) Q)) : wp (evC prog (n + 1) 37 [] [b0]) Q := w_evC rfl ⟨rfl, rfl⟩ h
theorem c_law {n : Nat} {a0 : D} {Q : D × Cs → Prop} (h : wp (evS (GG n) 0 b_law [.v a0, .un, .un] []) (fun r => wp (outOf 0 r) Q)) : wp (evC prog (n + 1) 38 [a0] []) Q := w_evC rfl ⟨rfl, rfl⟩ h
def top (i : Nat) : Stmt := PySem.Challenge.pw_landpoints_k18_ways_between_two_points.main.body.getD i (.Pass ⟨0, 0, 0, 0⟩)
def r_tupled : Rec := ⟨"tupled", 0, 0, ["thing"], ["thing", "part"], b_tupled, false, defArgs (top 1), defBody (top 1), defScope (top 1)⟩
def r_keeps : Rec := ⟨"keeps", 1, 0, ["spot", "condition"], ["spot", "condition", "area", "inside"], b_keeps, false, defArgs (top 3), defBody (top 3), defScope (top 3)⟩
def r_is_in : Rec := ⟨"is_in", 2, 0, ["spot", "cut"], ["spot", "cut", "condition"], b_is_in, false, defArgs (top 4), defBody (top 4), defScope (top 4)⟩
def r_owner_after : Rec := ⟨"owner_after", 6, 0, ["deed", "spot", "owner"], ["deed", "spot", "owner"], b_owner_after, false, defArgs (top 10), defBody (top 10), defScope (top 10)⟩
def r_owners_along : Rec := ⟨"owners_along", 7, 0, ["history", "spot", "first"], ["history", "spot", "first", "found", "deed"], b_owners_along, false, defArgs (top 11), defBody (top 11), defScope (top 11)⟩
def r_hits : Rec := ⟨"hits", 10, 0, ["deeds", "spot", "side"], ["deeds", "spot", "side", "deed"], b_hits, true, defArgs (top 15), defBody (top 15), defScope (top 15)⟩
def r_turned : Rec := ⟨"turned", 11, 0, ["deeds", "starts", "mine", "goals", "its"], ["deeds", "starts", "mine", "goals", "its", "found", "place", "deed", "now"], b_turned, false, defArgs (top 16), defBody (top 16), defScope (top 16)⟩
def r_way_along : Rec := ⟨"way_along", 12, 0, ["history", "near", "first", "far", "last"], ["history", "near", "first", "far", "last", "deeds", "start", "goal", "mine", "its"], b_way_along, false, defArgs (top 17), defBody (top 17), defScope (top 17)⟩
def r_way_behind : Rec := ⟨"way_behind", 13, 0, ["history", "near", "first", "far", "last"], ["history", "near", "first", "far", "last"], b_way_behind, false, defArgs (top 18), defBody (top 18), defScope (top 18)⟩
def r_law_box : Rec := ⟨"_law_box", 14, 0, ["_law_script", "_law_k"], ["_law_script", "_law_k", "_law_cell"], b_law_box, true, defArgs (top 20), defBody (top 20), defScope (top 20)⟩
def r_law_take : Rec := ⟨"_law_take", 15, 1, ["_law_box_here", "_law_below_so"], ["_law_box_here", "_law_below_so", "_law_drawn", "_law_once", "_law_its", "_law_twice"], b_law_take, false, defArgs (top 21), defBody (top 21), defScope (top 21)⟩
def r_law_cells : Rec := ⟨"_law_cells", 16, 0, ["_law_script", "_law_top_so"], ["_law_script", "_law_top_so", "_law_cells_so", "_law_k", "_law_cell", "_law_at_so"], b_law_cells, true, defArgs (top 22), defBody (top 22), defScope (top 22)⟩
def r_law_same : Rec := ⟨"_law_same", 17, 0, ["_law_got", "_law_due"], ["_law_got", "_law_due", "_law_mine", "_law_its"], b_law_same, false, defArgs (top 23), defBody (top 23), defScope (top 23)⟩
def r_law_lists : Rec := ⟨"_law_lists", 18, 0, ["_law_matter_so"], ["_law_matter_so", "_law_bit"], b_law_lists, false, defArgs (top 24), defBody (top 24), defScope (top 24)⟩
def r_law_of : Rec := ⟨"_law_of", 19, 1, ["_law_box_here", "_law_pool_so"], ["_law_box_here", "_law_pool_so"], b_law_of, false, defArgs (top 25), defBody (top 25), defScope (top 25)⟩
def r_law_spots : Rec := ⟨"_law_spots", 20, 0, ["_law_areas_so"], ["_law_areas_so", "_law_found", "_law_tag", "_law_own"], b_law_spots, true, defArgs (top 26), defBody (top 26), defScope (top 26)⟩
def r_law_in : Rec := ⟨"_law_in", 21, 0, ["_law_spot_so", "_law_cut_so"], ["_law_spot_so", "_law_cut_so", "_law_own", "_law_tag", "_law_side_so"], b_law_in, false, defArgs (top 27), defBody (top 27), defScope (top 27)⟩
def r_law_let : Rec := ⟨"_law_let", 22, 0, ["_law_chart_so"], ["_law_chart_so", "_law_own"], b_law_let, true, defArgs (top 28), defBody (top 28), defScope (top 28)⟩
def r_law_clause : Rec := ⟨"_law_clause", 23, 1, ["_law_box_here", "_law_areas_so"], ["_law_box_here", "_law_areas_so", "_law_ways_so", "_law_tag", "_law_way_so"], b_law_clause, false, defArgs (top 29), defBody (top 29), defScope (top 29)⟩
def r_law_cut : Rec := ⟨"_law_cut", 24, 1, ["_law_box_here", "_law_areas_so", "_law_most_so"], ["_law_box_here", "_law_areas_so", "_law_most_so", "_law_turn"], b_law_cut, false, defArgs (top 30), defBody (top 30), defScope (top 30)⟩
def r_law_chart : Rec := ⟨"_law_chart", 25, 1, ["_law_box_here", "_law_many_so"], ["_law_box_here", "_law_many_so", "_law_areas_so", "_law_bare_so", "_law_turn", "_law_own"], b_law_chart, false, defArgs (top 31), defBody (top 31), defScope (top 31)⟩
def r_law_deed : Rec := ⟨"_law_deed", 26, 1, ["_law_box_here", "_law_areas_so", "_law_sorts_so"], ["_law_box_here", "_law_areas_so", "_law_sorts_so", "_law_sort_so", "_law_cut_so", "_law_mine", "_law_its", "_law_tag", "_law_names_so", "_law_name_so"], b_law_deed, false, defArgs (top 32), defBody (top 32), defScope (top 32)⟩
def r_law_history : Rec := ⟨"_law_history", 27, 1, ["_law_box_here", "_law_areas_so", "_law_sorts_so", "_law_most_so"], ["_law_box_here", "_law_areas_so", "_law_sorts_so", "_law_most_so", "_law_turn"], b_law_history, false, defArgs (top 33), defBody (top 33), defScope (top 33)⟩
def r_law_side : Rec := ⟨"_law_side", 28, 0, ["_law_tag", "_law_side_so"], ["_law_tag", "_law_side_so"], b_law_side, false, defArgs (top 34), defBody (top 34), defScope (top 34)⟩
def r_law_owner : Rec := ⟨"_law_owner", 29, 0, ["_law_deed_so", "_law_spot_so", "_law_own"], ["_law_deed_so", "_law_spot_so", "_law_own"], b_law_owner, false, defArgs (top 35), defBody (top 35), defScope (top 35)⟩
def r_law_owners : Rec := ⟨"_law_owners", 30, 0, ["_law_history_so", "_law_spot_so", "_law_first_so"], ["_law_history_so", "_law_spot_so", "_law_first_so", "_law_found", "_law_deed_so"], b_law_owners, true, defArgs (top 36), defBody (top 36), defScope (top 36)⟩
def r_law_hits : Rec := ⟨"_law_hits", 31, 0, ["_law_history_so", "_law_spot_so", "_law_side_so"], ["_law_history_so", "_law_spot_so", "_law_side_so", "_law_own"], b_law_hits, true, defArgs (top 37), defBody (top 37), defScope (top 37)⟩
def r_law_track : Rec := ⟨"_law_track", 32, 0, ["_law_history_so", "_law_spot_so", "_law_first_so"], ["_law_history_so", "_law_spot_so", "_law_first_so", "_law_hits_so", "_law_side_so"], b_law_track, false, defArgs (top 38), defBody (top 38), defScope (top 38)⟩
def r_law_truths : Rec := ⟨"_law_truths", 33, 0, ["_law_history_so", "_law_mine", "_law_its"], ["_law_history_so", "_law_mine", "_law_its", "_law_found", "_law_k", "_law_deed_so", "_law_now_so"], b_law_truths, false, defArgs (top 39), defBody (top 39), defScope (top 39)⟩
def r_law_case_right : Rec := ⟨"_law_case_right", 34, 0, ["_law_history_so", "_law_start_so", "_law_first_so", "_law_goal_so", "_law_last_so"], ["_law_history_so", "_law_start_so", "_law_first_so", "_law_goal_so", "_law_last_so", "_law_due", "_law_soft", "_law_got"], b_law_case_right, false, defArgs (top 40), defBody (top 40), defScope (top 40)⟩
def r_law_by_hand_right : Rec := ⟨"_law_by_hand_right", 36, 0, [], ["_law_all_so", "_law_side_so", "_law_deeds_so", "_law_mine", "_law_inner", "_law_its", "_law_both_so", "_law_got", "_law_due", "_law_some_so", "_law_own"], b_law_by_hand_right, false, defArgs (top 41), defBody (top 41), defScope (top 41)⟩
def r_law_more_right : Rec := ⟨"_law_more_right", 35, 0, ["_law_all_so", "_law_mine", "_law_inner", "_law_its"], ["_law_all_so", "_law_mine", "_law_inner", "_law_its", "_law_row_so", "_law_sold_so", "_law_back_so", "_law_got", "_law_due", "_law_one_so"], b_law_more_right, false, defArgs (top 42), defBody (top 42), defScope (top 42)⟩
def r_law_right : Rec := ⟨"_law_right", 37, 1, ["_law_box_here"], ["_law_box_here", "_law_turn", "_law_chart_so", "_law_sorts_so", "_law_deeds_so", "_law_let_so", "_law_lap", "_law_own"], b_law_right, false, defArgs (top 43), defBody (top 43), defScope (top 43)⟩
def r_law : Rec := ⟨"law", 38, 0, ["_law_script"], ["_law_script", "_law_cells_so", "_law_k"], b_law, false, defArgs (top 44), defBody (top 44), defScope (top 44)⟩
def recs : List Rec := [r_tupled, r_keeps, r_is_in, r_owner_after, r_owners_along, r_hits, r_turned, r_way_along, r_way_behind, r_law_box, r_law_take, r_law_cells, r_law_same, r_law_lists, r_law_of, r_law_spots, r_law_in, r_law_let, r_law_clause, r_law_cut, r_law_chart, r_law_deed, r_law_history, r_law_side, r_law_owner, r_law_owners, r_law_hits, r_law_track, r_law_truths, r_law_case_right, r_law_by_hand_right, r_law_more_right, r_law_right, r_law]
def fr : Nat → Bool
  | 10 => true
  | 14 => true
  | 16 => true
  | 20 => true
  | 22 => true
  | 30 => true
  | 31 => true
  | _ => false
def csts : List (Str × Nat × D) := [("GIVE", 39, (.str (Str.ofString "give"))), ("VEST", 4, (.str (Str.ofString "vest"))), ("SWAP", 5, (.str (Str.ofString "swap"))), ("TITLE_WORDS", 3, (.tuple [(.str (Str.ofString "give")), (.str (Str.ofString "vest")), (.str (Str.ofString "swap"))])), ("WAY", 9, (.str (Str.ofString "way"))), ("END", 8, (.str (Str.ofString "end")))]
abbrev cst : List (Str × Nat) := csts.map fun z => (z.1, z.2.1)
def kw : List (Str × List Str × List Nat) := [("way_along", ["last", "near", "history", "far", "first"], [2, 1, 4, 3, 0]), ("way_behind", ["last", "far", "first", "near", "history"], [4, 3, 2, 1, 0])]
def tab : Tab := tabOf recs cst fr kw
theorem ok_tupled : r_tupled.ok tab = true := by decide +kernel
theorem ok_keeps : r_keeps.ok tab = true := by decide +kernel
theorem ok_is_in : r_is_in.ok tab = true := by decide +kernel
theorem ok_owner_after : r_owner_after.ok tab = true := by decide +kernel
theorem ok_owners_along : r_owners_along.ok tab = true := by decide +kernel
theorem ok_hits : r_hits.ok tab = true := by decide +kernel
theorem ok_turned : r_turned.ok tab = true := by decide +kernel
theorem ok_way_along : r_way_along.ok tab = true := by decide +kernel
theorem ok_way_behind : r_way_behind.ok tab = true := by decide +kernel
theorem ok_law_box : r_law_box.ok tab = true := by decide +kernel
theorem ok_law_take : r_law_take.ok tab = true := by decide +kernel
theorem ok_law_cells : r_law_cells.ok tab = true := by decide +kernel
theorem ok_law_same : r_law_same.ok tab = true := by decide +kernel
theorem ok_law_lists : r_law_lists.ok tab = true := by decide +kernel
theorem ok_law_of : r_law_of.ok tab = true := by decide +kernel
theorem ok_law_spots : r_law_spots.ok tab = true := by decide +kernel
theorem ok_law_in : r_law_in.ok tab = true := by decide +kernel
theorem ok_law_let : r_law_let.ok tab = true := by decide +kernel
theorem ok_law_clause : r_law_clause.ok tab = true := by decide +kernel
theorem ok_law_cut : r_law_cut.ok tab = true := by decide +kernel
theorem ok_law_chart : r_law_chart.ok tab = true := by decide +kernel
theorem ok_law_deed : r_law_deed.ok tab = true := by decide +kernel
theorem ok_law_history : r_law_history.ok tab = true := by decide +kernel
theorem ok_law_side : r_law_side.ok tab = true := by decide +kernel
theorem ok_law_owner : r_law_owner.ok tab = true := by decide +kernel
theorem ok_law_owners : r_law_owners.ok tab = true := by decide +kernel
theorem ok_law_hits : r_law_hits.ok tab = true := by decide +kernel
theorem ok_law_track : r_law_track.ok tab = true := by decide +kernel
theorem ok_law_truths : r_law_truths.ok tab = true := by decide +kernel
theorem ok_law_case_right : r_law_case_right.ok tab = true := by decide +kernel
theorem ok_law_by_hand_right : r_law_by_hand_right.ok tab = true := by decide +kernel
theorem ok_law_more_right : r_law_more_right.ok tab = true := by decide +kernel
theorem ok_law_right : r_law_right.ok tab = true := by decide +kernel
theorem ok_law : r_law.ok tab = true := by decide +kernel
theorem all_ok : ∀ r ∈ recs, r.ok tab = true := by
  unfold recs
  refine List.forall_mem_cons.mpr ⟨ok_tupled, ?_⟩
  refine List.forall_mem_cons.mpr ⟨ok_keeps, ?_⟩
  refine List.forall_mem_cons.mpr ⟨ok_is_in, ?_⟩
  refine List.forall_mem_cons.mpr ⟨ok_owner_after, ?_⟩
  refine List.forall_mem_cons.mpr ⟨ok_owners_along, ?_⟩
  refine List.forall_mem_cons.mpr ⟨ok_hits, ?_⟩
  refine List.forall_mem_cons.mpr ⟨ok_turned, ?_⟩
  refine List.forall_mem_cons.mpr ⟨ok_way_along, ?_⟩
  refine List.forall_mem_cons.mpr ⟨ok_way_behind, ?_⟩
  refine List.forall_mem_cons.mpr ⟨ok_law_box, ?_⟩
  refine List.forall_mem_cons.mpr ⟨ok_law_take, ?_⟩
  refine List.forall_mem_cons.mpr ⟨ok_law_cells, ?_⟩
  refine List.forall_mem_cons.mpr ⟨ok_law_same, ?_⟩
  refine List.forall_mem_cons.mpr ⟨ok_law_lists, ?_⟩
  refine List.forall_mem_cons.mpr ⟨ok_law_of, ?_⟩
  refine List.forall_mem_cons.mpr ⟨ok_law_spots, ?_⟩
  refine List.forall_mem_cons.mpr ⟨ok_law_in, ?_⟩
  refine List.forall_mem_cons.mpr ⟨ok_law_let, ?_⟩
  refine List.forall_mem_cons.mpr ⟨ok_law_clause, ?_⟩
  refine List.forall_mem_cons.mpr ⟨ok_law_cut, ?_⟩
  refine List.forall_mem_cons.mpr ⟨ok_law_chart, ?_⟩
  refine List.forall_mem_cons.mpr ⟨ok_law_deed, ?_⟩
  refine List.forall_mem_cons.mpr ⟨ok_law_history, ?_⟩
  refine List.forall_mem_cons.mpr ⟨ok_law_side, ?_⟩
  refine List.forall_mem_cons.mpr ⟨ok_law_owner, ?_⟩
  refine List.forall_mem_cons.mpr ⟨ok_law_owners, ?_⟩
  refine List.forall_mem_cons.mpr ⟨ok_law_hits, ?_⟩
  refine List.forall_mem_cons.mpr ⟨ok_law_track, ?_⟩
  refine List.forall_mem_cons.mpr ⟨ok_law_truths, ?_⟩
  refine List.forall_mem_cons.mpr ⟨ok_law_case_right, ?_⟩
  refine List.forall_mem_cons.mpr ⟨ok_law_by_hand_right, ?_⟩
  refine List.forall_mem_cons.mpr ⟨ok_law_more_right, ?_⟩
  refine List.forall_mem_cons.mpr ⟨ok_law_right, ?_⟩
  refine List.forall_mem_cons.mpr ⟨ok_law, ?_⟩
  exact fun r hr => by cases hr
theorem all_defs : ∀ r ∈ recs, prog.defs r.id = some ⟨r.nr, r.ps.length, r.N.length, r.body⟩ := by
  unfold recs
  refine List.forall_mem_cons.mpr ⟨rfl, ?_⟩
  refine List.forall_mem_cons.mpr ⟨rfl, ?_⟩
  refine List.forall_mem_cons.mpr ⟨rfl, ?_⟩
  refine List.forall_mem_cons.mpr ⟨rfl, ?_⟩
  refine List.forall_mem_cons.mpr ⟨rfl, ?_⟩
  refine List.forall_mem_cons.mpr ⟨rfl, ?_⟩
  refine List.forall_mem_cons.mpr ⟨rfl, ?_⟩
  refine List.forall_mem_cons.mpr ⟨rfl, ?_⟩
  refine List.forall_mem_cons.mpr ⟨rfl, ?_⟩
  refine List.forall_mem_cons.mpr ⟨rfl, ?_⟩
  refine List.forall_mem_cons.mpr ⟨rfl, ?_⟩
  refine List.forall_mem_cons.mpr ⟨rfl, ?_⟩
  refine List.forall_mem_cons.mpr ⟨rfl, ?_⟩
  refine List.forall_mem_cons.mpr ⟨rfl, ?_⟩
  refine List.forall_mem_cons.mpr ⟨rfl, ?_⟩
  refine List.forall_mem_cons.mpr ⟨rfl, ?_⟩
  refine List.forall_mem_cons.mpr ⟨rfl, ?_⟩
  refine List.forall_mem_cons.mpr ⟨rfl, ?_⟩
  refine List.forall_mem_cons.mpr ⟨rfl, ?_⟩
  refine List.forall_mem_cons.mpr ⟨rfl, ?_⟩
  refine List.forall_mem_cons.mpr ⟨rfl, ?_⟩
  refine List.forall_mem_cons.mpr ⟨rfl, ?_⟩
  refine List.forall_mem_cons.mpr ⟨rfl, ?_⟩
  refine List.forall_mem_cons.mpr ⟨rfl, ?_⟩
  refine List.forall_mem_cons.mpr ⟨rfl, ?_⟩
  refine List.forall_mem_cons.mpr ⟨rfl, ?_⟩
  refine List.forall_mem_cons.mpr ⟨rfl, ?_⟩
  refine List.forall_mem_cons.mpr ⟨rfl, ?_⟩
  refine List.forall_mem_cons.mpr ⟨rfl, ?_⟩
  refine List.forall_mem_cons.mpr ⟨rfl, ?_⟩
  refine List.forall_mem_cons.mpr ⟨rfl, ?_⟩
  refine List.forall_mem_cons.mpr ⟨rfl, ?_⟩
  refine List.forall_mem_cons.mpr ⟨rfl, ?_⟩
  refine List.forall_mem_cons.mpr ⟨rfl, ?_⟩
  exact fun r hr => by cases hr
abbrev Bd (r : Rec) : Prop := ∀ (kV doc pm : Value) (an : Option Addr) (cdv ct : Value) (us : List Value), us.length = r.ps.length → bindArgs (PySem.W.fnOf r.name r.name r.params r.sts r.scope .none kV doc pm an cdv ct) ⟨us, []⟩ = pure (r.ps.zip us)
theorem bd_tupled : Bd r_tupled := fun _ _ _ _ _ _ us hl => match us, hl with | [_], _ => rfl
theorem bd_keeps : Bd r_keeps := fun _ _ _ _ _ _ us hl => match us, hl with | [_, _], _ => rfl
theorem bd_is_in : Bd r_is_in := fun _ _ _ _ _ _ us hl => match us, hl with | [_, _], _ => rfl
theorem bd_owner_after : Bd r_owner_after := fun _ _ _ _ _ _ us hl => match us, hl with | [_, _, _], _ => rfl
theorem bd_owners_along : Bd r_owners_along := fun _ _ _ _ _ _ us hl => match us, hl with | [_, _, _], _ => rfl
theorem bd_hits : Bd r_hits := fun _ _ _ _ _ _ us hl => match us, hl with | [_, _, _], _ => rfl
theorem bd_turned : Bd r_turned := fun _ _ _ _ _ _ us hl => match us, hl with | [_, _, _, _, _], _ => rfl
theorem bd_way_along : Bd r_way_along := fun _ _ _ _ _ _ us hl => match us, hl with | [_, _, _, _, _], _ => rfl
theorem bd_way_behind : Bd r_way_behind := fun _ _ _ _ _ _ us hl => match us, hl with | [_, _, _, _, _], _ => rfl
theorem bd_law_box : Bd r_law_box := fun _ _ _ _ _ _ us hl => match us, hl with | [_, _], _ => rfl
theorem bd_law_take : Bd r_law_take := fun _ _ _ _ _ _ us hl => match us, hl with | [_, _], _ => rfl
theorem bd_law_cells : Bd r_law_cells := fun _ _ _ _ _ _ us hl => match us, hl with | [_, _], _ => rfl
theorem bd_law_same : Bd r_law_same := fun _ _ _ _ _ _ us hl => match us, hl with | [_, _], _ => rfl
theorem bd_law_lists : Bd r_law_lists := fun _ _ _ _ _ _ us hl => match us, hl with | [_], _ => rfl
theorem bd_law_of : Bd r_law_of := fun _ _ _ _ _ _ us hl => match us, hl with | [_, _], _ => rfl
theorem bd_law_spots : Bd r_law_spots := fun _ _ _ _ _ _ us hl => match us, hl with | [_], _ => rfl
theorem bd_law_in : Bd r_law_in := fun _ _ _ _ _ _ us hl => match us, hl with | [_, _], _ => rfl
theorem bd_law_let : Bd r_law_let := fun _ _ _ _ _ _ us hl => match us, hl with | [_], _ => rfl
theorem bd_law_clause : Bd r_law_clause := fun _ _ _ _ _ _ us hl => match us, hl with | [_, _], _ => rfl
theorem bd_law_cut : Bd r_law_cut := fun _ _ _ _ _ _ us hl => match us, hl with | [_, _, _], _ => rfl
theorem bd_law_chart : Bd r_law_chart := fun _ _ _ _ _ _ us hl => match us, hl with | [_, _], _ => rfl
theorem bd_law_deed : Bd r_law_deed := fun _ _ _ _ _ _ us hl => match us, hl with | [_, _, _], _ => rfl
theorem bd_law_history : Bd r_law_history := fun _ _ _ _ _ _ us hl => match us, hl with | [_, _, _, _], _ => rfl
theorem bd_law_side : Bd r_law_side := fun _ _ _ _ _ _ us hl => match us, hl with | [_, _], _ => rfl
theorem bd_law_owner : Bd r_law_owner := fun _ _ _ _ _ _ us hl => match us, hl with | [_, _, _], _ => rfl
theorem bd_law_owners : Bd r_law_owners := fun _ _ _ _ _ _ us hl => match us, hl with | [_, _, _], _ => rfl
theorem bd_law_hits : Bd r_law_hits := fun _ _ _ _ _ _ us hl => match us, hl with | [_, _, _], _ => rfl
theorem bd_law_track : Bd r_law_track := fun _ _ _ _ _ _ us hl => match us, hl with | [_, _, _], _ => rfl
theorem bd_law_truths : Bd r_law_truths := fun _ _ _ _ _ _ us hl => match us, hl with | [_, _, _], _ => rfl
theorem bd_law_case_right : Bd r_law_case_right := fun _ _ _ _ _ _ us hl => match us, hl with | [_, _, _, _, _], _ => rfl
theorem bd_law_by_hand_right : Bd r_law_by_hand_right := fun _ _ _ _ _ _ us hl => match us, hl with | [], _ => rfl
theorem bd_law_more_right : Bd r_law_more_right := fun _ _ _ _ _ _ us hl => match us, hl with | [_, _, _, _], _ => rfl
theorem bd_law_right : Bd r_law_right := fun _ _ _ _ _ _ us hl => match us, hl with | [_], _ => rfl
theorem bd_law : Bd r_law := fun _ _ _ _ _ _ us hl => match us, hl with | [_], _ => rfl
theorem all_bd : ∀ r ∈ recs, Bd r := by
  unfold recs
  refine List.forall_mem_cons.mpr ⟨bd_tupled, ?_⟩
  refine List.forall_mem_cons.mpr ⟨bd_keeps, ?_⟩
  refine List.forall_mem_cons.mpr ⟨bd_is_in, ?_⟩
  refine List.forall_mem_cons.mpr ⟨bd_owner_after, ?_⟩
  refine List.forall_mem_cons.mpr ⟨bd_owners_along, ?_⟩
  refine List.forall_mem_cons.mpr ⟨bd_hits, ?_⟩
  refine List.forall_mem_cons.mpr ⟨bd_turned, ?_⟩
  refine List.forall_mem_cons.mpr ⟨bd_way_along, ?_⟩
  refine List.forall_mem_cons.mpr ⟨bd_way_behind, ?_⟩
  refine List.forall_mem_cons.mpr ⟨bd_law_box, ?_⟩
  refine List.forall_mem_cons.mpr ⟨bd_law_take, ?_⟩
  refine List.forall_mem_cons.mpr ⟨bd_law_cells, ?_⟩
  refine List.forall_mem_cons.mpr ⟨bd_law_same, ?_⟩
  refine List.forall_mem_cons.mpr ⟨bd_law_lists, ?_⟩
  refine List.forall_mem_cons.mpr ⟨bd_law_of, ?_⟩
  refine List.forall_mem_cons.mpr ⟨bd_law_spots, ?_⟩
  refine List.forall_mem_cons.mpr ⟨bd_law_in, ?_⟩
  refine List.forall_mem_cons.mpr ⟨bd_law_let, ?_⟩
  refine List.forall_mem_cons.mpr ⟨bd_law_clause, ?_⟩
  refine List.forall_mem_cons.mpr ⟨bd_law_cut, ?_⟩
  refine List.forall_mem_cons.mpr ⟨bd_law_chart, ?_⟩
  refine List.forall_mem_cons.mpr ⟨bd_law_deed, ?_⟩
  refine List.forall_mem_cons.mpr ⟨bd_law_history, ?_⟩
  refine List.forall_mem_cons.mpr ⟨bd_law_side, ?_⟩
  refine List.forall_mem_cons.mpr ⟨bd_law_owner, ?_⟩
  refine List.forall_mem_cons.mpr ⟨bd_law_owners, ?_⟩
  refine List.forall_mem_cons.mpr ⟨bd_law_hits, ?_⟩
  refine List.forall_mem_cons.mpr ⟨bd_law_track, ?_⟩
  refine List.forall_mem_cons.mpr ⟨bd_law_truths, ?_⟩
  refine List.forall_mem_cons.mpr ⟨bd_law_case_right, ?_⟩
  refine List.forall_mem_cons.mpr ⟨bd_law_by_hand_right, ?_⟩
  refine List.forall_mem_cons.mpr ⟨bd_law_more_right, ?_⟩
  refine List.forall_mem_cons.mpr ⟨bd_law_right, ?_⟩
  refine List.forall_mem_cons.mpr ⟨bd_law, ?_⟩
  exact fun r hr => by cases hr
abbrev Kb (r : Rec) (z : Str × List Str × List Nat) : Prop := z.1 = r.name → ∀ (kV doc pm : Value) (an : Option Addr) (cdv ct : Value) (ws : List Value), ws.length = z.2.1.length → bindArgs (PySem.W.fnOf r.name r.name r.params r.sts r.scope .none kV doc pm an cdv ct) ⟨[], z.2.1.zip ws⟩ = pure (r.ps.zip (pick z.2.2 ws))
theorem all_kb : ∀ r ∈ recs, ∀ z ∈ kw, Kb r z := by
  unfold recs kw
  refine List.forall_mem_cons.mpr ⟨?_, ?_⟩
  · refine List.forall_mem_cons.mpr ⟨(fun h => absurd h (by decide)), ?_⟩; refine List.forall_mem_cons.mpr ⟨(fun h => absurd h (by decide)), ?_⟩; exact fun z hz => by cases hz
  refine List.forall_mem_cons.mpr ⟨?_, ?_⟩
  · refine List.forall_mem_cons.mpr ⟨(fun h => absurd h (by decide)), ?_⟩; refine List.forall_mem_cons.mpr ⟨(fun h => absurd h (by decide)), ?_⟩; exact fun z hz => by cases hz
  refine List.forall_mem_cons.mpr ⟨?_, ?_⟩
  · refine List.forall_mem_cons.mpr ⟨(fun h => absurd h (by decide)), ?_⟩; refine List.forall_mem_cons.mpr ⟨(fun h => absurd h (by decide)), ?_⟩; exact fun z hz => by cases hz
  refine List.forall_mem_cons.mpr ⟨?_, ?_⟩
  · refine List.forall_mem_cons.mpr ⟨(fun h => absurd h (by decide)), ?_⟩; refine List.forall_mem_cons.mpr ⟨(fun h => absurd h (by decide)), ?_⟩; exact fun z hz => by cases hz
  refine List.forall_mem_cons.mpr ⟨?_, ?_⟩
  · refine List.forall_mem_cons.mpr ⟨(fun h => absurd h (by decide)), ?_⟩; refine List.forall_mem_cons.mpr ⟨(fun h => absurd h (by decide)), ?_⟩; exact fun z hz => by cases hz
  refine List.forall_mem_cons.mpr ⟨?_, ?_⟩
  · refine List.forall_mem_cons.mpr ⟨(fun h => absurd h (by decide)), ?_⟩; refine List.forall_mem_cons.mpr ⟨(fun h => absurd h (by decide)), ?_⟩; exact fun z hz => by cases hz
  refine List.forall_mem_cons.mpr ⟨?_, ?_⟩
  · refine List.forall_mem_cons.mpr ⟨(fun h => absurd h (by decide)), ?_⟩; refine List.forall_mem_cons.mpr ⟨(fun h => absurd h (by decide)), ?_⟩; exact fun z hz => by cases hz
  refine List.forall_mem_cons.mpr ⟨?_, ?_⟩
  · refine List.forall_mem_cons.mpr ⟨fun _ _ _ _ _ _ _ ws hl => match ws, hl with | [_, _, _, _, _], _ => rfl, ?_⟩; refine List.forall_mem_cons.mpr ⟨(fun h => absurd h (by decide)), ?_⟩; exact fun z hz => by cases hz
  refine List.forall_mem_cons.mpr ⟨?_, ?_⟩
  · refine List.forall_mem_cons.mpr ⟨(fun h => absurd h (by decide)), ?_⟩; refine List.forall_mem_cons.mpr ⟨fun _ _ _ _ _ _ _ ws hl => match ws, hl with | [_, _, _, _, _], _ => rfl, ?_⟩; exact fun z hz => by cases hz
  refine List.forall_mem_cons.mpr ⟨?_, ?_⟩
  · refine List.forall_mem_cons.mpr ⟨(fun h => absurd h (by decide)), ?_⟩; refine List.forall_mem_cons.mpr ⟨(fun h => absurd h (by decide)), ?_⟩; exact fun z hz => by cases hz
  refine List.forall_mem_cons.mpr ⟨?_, ?_⟩
  · refine List.forall_mem_cons.mpr ⟨(fun h => absurd h (by decide)), ?_⟩; refine List.forall_mem_cons.mpr ⟨(fun h => absurd h (by decide)), ?_⟩; exact fun z hz => by cases hz
  refine List.forall_mem_cons.mpr ⟨?_, ?_⟩
  · refine List.forall_mem_cons.mpr ⟨(fun h => absurd h (by decide)), ?_⟩; refine List.forall_mem_cons.mpr ⟨(fun h => absurd h (by decide)), ?_⟩; exact fun z hz => by cases hz
  refine List.forall_mem_cons.mpr ⟨?_, ?_⟩
  · refine List.forall_mem_cons.mpr ⟨(fun h => absurd h (by decide)), ?_⟩; refine List.forall_mem_cons.mpr ⟨(fun h => absurd h (by decide)), ?_⟩; exact fun z hz => by cases hz
  refine List.forall_mem_cons.mpr ⟨?_, ?_⟩
  · refine List.forall_mem_cons.mpr ⟨(fun h => absurd h (by decide)), ?_⟩; refine List.forall_mem_cons.mpr ⟨(fun h => absurd h (by decide)), ?_⟩; exact fun z hz => by cases hz
  refine List.forall_mem_cons.mpr ⟨?_, ?_⟩
  · refine List.forall_mem_cons.mpr ⟨(fun h => absurd h (by decide)), ?_⟩; refine List.forall_mem_cons.mpr ⟨(fun h => absurd h (by decide)), ?_⟩; exact fun z hz => by cases hz
  refine List.forall_mem_cons.mpr ⟨?_, ?_⟩
  · refine List.forall_mem_cons.mpr ⟨(fun h => absurd h (by decide)), ?_⟩; refine List.forall_mem_cons.mpr ⟨(fun h => absurd h (by decide)), ?_⟩; exact fun z hz => by cases hz
  refine List.forall_mem_cons.mpr ⟨?_, ?_⟩
  · refine List.forall_mem_cons.mpr ⟨(fun h => absurd h (by decide)), ?_⟩; refine List.forall_mem_cons.mpr ⟨(fun h => absurd h (by decide)), ?_⟩; exact fun z hz => by cases hz
  refine List.forall_mem_cons.mpr ⟨?_, ?_⟩
  · refine List.forall_mem_cons.mpr ⟨(fun h => absurd h (by decide)), ?_⟩; refine List.forall_mem_cons.mpr ⟨(fun h => absurd h (by decide)), ?_⟩; exact fun z hz => by cases hz
  refine List.forall_mem_cons.mpr ⟨?_, ?_⟩
  · refine List.forall_mem_cons.mpr ⟨(fun h => absurd h (by decide)), ?_⟩; refine List.forall_mem_cons.mpr ⟨(fun h => absurd h (by decide)), ?_⟩; exact fun z hz => by cases hz
  refine List.forall_mem_cons.mpr ⟨?_, ?_⟩
  · refine List.forall_mem_cons.mpr ⟨(fun h => absurd h (by decide)), ?_⟩; refine List.forall_mem_cons.mpr ⟨(fun h => absurd h (by decide)), ?_⟩; exact fun z hz => by cases hz
  refine List.forall_mem_cons.mpr ⟨?_, ?_⟩
  · refine List.forall_mem_cons.mpr ⟨(fun h => absurd h (by decide)), ?_⟩; refine List.forall_mem_cons.mpr ⟨(fun h => absurd h (by decide)), ?_⟩; exact fun z hz => by cases hz
  refine List.forall_mem_cons.mpr ⟨?_, ?_⟩
  · refine List.forall_mem_cons.mpr ⟨(fun h => absurd h (by decide)), ?_⟩; refine List.forall_mem_cons.mpr ⟨(fun h => absurd h (by decide)), ?_⟩; exact fun z hz => by cases hz
  refine List.forall_mem_cons.mpr ⟨?_, ?_⟩
  · refine List.forall_mem_cons.mpr ⟨(fun h => absurd h (by decide)), ?_⟩; refine List.forall_mem_cons.mpr ⟨(fun h => absurd h (by decide)), ?_⟩; exact fun z hz => by cases hz
  refine List.forall_mem_cons.mpr ⟨?_, ?_⟩
  · refine List.forall_mem_cons.mpr ⟨(fun h => absurd h (by decide)), ?_⟩; refine List.forall_mem_cons.mpr ⟨(fun h => absurd h (by decide)), ?_⟩; exact fun z hz => by cases hz
  refine List.forall_mem_cons.mpr ⟨?_, ?_⟩
  · refine List.forall_mem_cons.mpr ⟨(fun h => absurd h (by decide)), ?_⟩; refine List.forall_mem_cons.mpr ⟨(fun h => absurd h (by decide)), ?_⟩; exact fun z hz => by cases hz
  refine List.forall_mem_cons.mpr ⟨?_, ?_⟩
  · refine List.forall_mem_cons.mpr ⟨(fun h => absurd h (by decide)), ?_⟩; refine List.forall_mem_cons.mpr ⟨(fun h => absurd h (by decide)), ?_⟩; exact fun z hz => by cases hz
  refine List.forall_mem_cons.mpr ⟨?_, ?_⟩
  · refine List.forall_mem_cons.mpr ⟨(fun h => absurd h (by decide)), ?_⟩; refine List.forall_mem_cons.mpr ⟨(fun h => absurd h (by decide)), ?_⟩; exact fun z hz => by cases hz
  refine List.forall_mem_cons.mpr ⟨?_, ?_⟩
  · refine List.forall_mem_cons.mpr ⟨(fun h => absurd h (by decide)), ?_⟩; refine List.forall_mem_cons.mpr ⟨(fun h => absurd h (by decide)), ?_⟩; exact fun z hz => by cases hz
  refine List.forall_mem_cons.mpr ⟨?_, ?_⟩
  · refine List.forall_mem_cons.mpr ⟨(fun h => absurd h (by decide)), ?_⟩; refine List.forall_mem_cons.mpr ⟨(fun h => absurd h (by decide)), ?_⟩; exact fun z hz => by cases hz
  refine List.forall_mem_cons.mpr ⟨?_, ?_⟩
  · refine List.forall_mem_cons.mpr ⟨(fun h => absurd h (by decide)), ?_⟩; refine List.forall_mem_cons.mpr ⟨(fun h => absurd h (by decide)), ?_⟩; exact fun z hz => by cases hz
  refine List.forall_mem_cons.mpr ⟨?_, ?_⟩
  · refine List.forall_mem_cons.mpr ⟨(fun h => absurd h (by decide)), ?_⟩; refine List.forall_mem_cons.mpr ⟨(fun h => absurd h (by decide)), ?_⟩; exact fun z hz => by cases hz
  refine List.forall_mem_cons.mpr ⟨?_, ?_⟩
  · refine List.forall_mem_cons.mpr ⟨(fun h => absurd h (by decide)), ?_⟩; refine List.forall_mem_cons.mpr ⟨(fun h => absurd h (by decide)), ?_⟩; exact fun z hz => by cases hz
  refine List.forall_mem_cons.mpr ⟨?_, ?_⟩
  · refine List.forall_mem_cons.mpr ⟨(fun h => absurd h (by decide)), ?_⟩; refine List.forall_mem_cons.mpr ⟨(fun h => absurd h (by decide)), ?_⟩; exact fun z hz => by cases hz
  refine List.forall_mem_cons.mpr ⟨?_, ?_⟩
  · refine List.forall_mem_cons.mpr ⟨(fun h => absurd h (by decide)), ?_⟩; refine List.forall_mem_cons.mpr ⟨(fun h => absurd h (by decide)), ?_⟩; exact fun z hz => by cases hz
  exact fun r hr => by cases hr
theorem all_cs : ∀ z ∈ csts, prog.consts z.2.1 = some z.2.2 := by
  unfold csts
  refine List.forall_mem_cons.mpr ⟨rfl, ?_⟩
  refine List.forall_mem_cons.mpr ⟨rfl, ?_⟩
  refine List.forall_mem_cons.mpr ⟨rfl, ?_⟩
  refine List.forall_mem_cons.mpr ⟨rfl, ?_⟩
  refine List.forall_mem_cons.mpr ⟨rfl, ?_⟩
  refine List.forall_mem_cons.mpr ⟨rfl, ?_⟩
  exact fun r hr => by cases hr
theorem txt : Txt0 recs cst fr kw prog := ⟨all_ok, all_defs, all_bd, all_kb⟩
abbrev R0 : PySem.W.OpenRow := PySem.W.OpenLaw.row PySem.Challenge.rw_landpoints_k18_ways_between_two_points
def loose0 : List PySem.Str := ["tupled", "keeps", "is_in", "GIVE", "VEST", "SWAP", "TITLE_WORDS", "owner_after", "owners_along", "WAY", "END", "hits", "turned", "way_along", "way_behind", "_law_box", "_law_take", "_law_cells", "_law_same", "_law_lists", "_law_of", "_law_spots", "_law_in", "_law_let", "_law_clause", "_law_cut", "_law_chart", "_law_deed", "_law_history", "_law_side"]
def loose1 : List PySem.Str := ["_law_owner", "_law_owners", "_law_hits", "_law_track", "_law_truths", "_law_case_right", "_law_by_hand_right", "_law_more_right", "_law_right"]
abbrev loose : List PySem.Str := loose0 ++ loose1
abbrev hk : PySem.W.Hook := hookC 5 recs csts
def ob (s : PySem.W.SharedT) : ObT := obsC 5 recs csts (HandSHeadRun.getT s)
theorem ob_eq (s : PySem.W.SharedT) : ob s = hk.obs s.abs := obsC_eq (HandSHeadRun.getT_eq s)
theorem run (w : World) : HandSHeadRun.RunEq R0 (PySem.W.view R0.prog [44]) hk ob 3000 loose w := by
  intro os
  kernel_rfl
end LP.T
open PySem PySem.W PySem.Calls PyProof.Rows LP LP.T in
theorem LP.T.holds {k : Nat} (hk0 : L2.Room k callerA) (hL : ∀ ns : List Int, ns.length ≤ 63 → LP.evC LP.T.prog k LP.T.lawId [.list (ns.map .int)] [] = .ok (.bool true, [])) : PySem.Challenge.rw_landpoints_k18_ways_between_two_points.Holds := by
  w_on; o_law
  refine HandSHeadRun.head_any (r := OpenLaw.row PySem.Challenge.rw_landpoints_k18_ways_between_two_points) (q := view (OpenLaw.row PySem.Challenge.rw_landpoints_k18_ways_between_two_points).prog [44]) (H := LP.T.hk) (ob := LP.T.ob) (M := 3000) (loose := LP.T.loose) (d := HandSHeadRun.topDef (OpenLaw.row PySem.Challenge.rw_landpoints_k18_ways_between_two_points).prog 44) (kwd := []) LP.T.ob_eq
    (by kernel_rfl) (fun s => by kernel_rfl) LP.T.run (by kernel_rfl) (by kernel_rfl) (by kernel_rfl) (by rfl) (by first | assumption | decide +kernel) (by decide +kernel) ⟨rfl, rfl, rfl, rfl, rfl, by decide +kernel⟩ ?hw ?hc
  case hw => w_witness2
  case hc =>
    refine L2.walk_ofE (l := PySem.Challenge.rw_landpoints_k18_ways_between_two_points) (n := 63) (k := k) (x := "_law_script") (CX := L2.CX0) rfl (by decide) (by kernel_rfl) hk0 ?F (fun _ _ _ _ z => z)
    intro w mg fa h Y G hmg0
    obtain ⟨K, KX, c, hc⟩ := Y
    have hmg : mg ("law" : PySem.Str) = some (.ref fa) := by
      have e : (HandSHeadRun.topDef (OpenLaw.row PySem.Challenge.rw_landpoints_k18_ways_between_two_points).prog 44).name = ("law" : PySem.Str) := by kernel_rfl
      rw [← e]
      exact hmg0
    have tl := LP.told_of (pr := LP.T.prog) KX G c hc LP.T.all_cs
    have hr : LP.T.r_law ∈ LP.T.recs := by unfold LP.T.recs; simp only [List.mem_cons, true_or, or_true]
    obtain ⟨fd, F⟩ := tl.fun_ _ hr
    have e := hmg.symm.trans (tl.glo _ hr)
    cases e
    exact ⟨K, fd, LP.spF K (LP.evC LP.T.prog k) LP.T.fr LP.T.lawId 0 1, KX, fun s u => L2.FunD.bindsA (ps := ["_law_script"]) F LP.T.bd_law s [u] rfl, fun H a ns hl _ hS => LP.law_sp hS (hL ns hl), fun base _ _ => LP.defs_ok LP.T.txt tl k _ hr fd F⟩
namespace LP.T
end LP.T
set_option autoImplicit false
set_option linter.all false
set_option maxRecDepth 100000
set_option maxHeartbeats 1000000
namespace LP
open PySem LP.T
def takeV (b c m : Int) : Int :=
  let once := ((b + 48271 * (c + 1)) * (39373 + (c + 1))) % 2147483647
  let twice := ((once + (c + 1) + b / 1000003) * (once % 40009 + 7)) % 2147483629
  ((twice * 48271 + once) % 2147483587 / 64) % m
theorem take_ok {P : Prog} (hp : P.defs 15 = some ⟨1, 2, 6, b_law_take⟩) {n : Nat} {m a b c : Int} (h0 : 0 < m) (h1 : m < 1073741824) (hc : 0 ≤ c) (hc2 : c < 2 ^ 60) :
    ∃ v a' c', evC P (n + 1) 15 [.int m] [[.int a, .int b, .int c]] = .ok (.int v, [[.int a', .int b, .int c']]) ∧ 0 ≤ v ∧ v < m ∧ c ≤ c' ∧ c' ≤ c + 1 := by
  by_cases ha : 0 < a
  · refine ⟨a % m, a / m, c, ?_, Int.emod_nonneg _ (by omega), Int.emod_lt_of_pos _ h0, by omega, by omega⟩
    simp [evC, hp, b_law_take, startV, evS, evE, getV, getC, op1, op2, place, tru, asInt, outOf, R.chk, ha, h0, h1, List.replicate]
  · refine ⟨takeV b c m, a, c + 1, ?_, Int.emod_nonneg _ (by omega), Int.emod_lt_of_pos _ h0, by omega, by omega⟩
    have e1 : ((39373 : Int) + (c + 1)).natAbs < 9223372036854775808 := by omega
    have e2 : ∀ x : Int, (x % 40009 + 7).natAbs < 9223372036854775808 := fun x => by omega
    simp [evC, hp, b_law_take, startV, evS, evE, getV, getC, op1, op2, place, tru, asInt, outOf, R.chk, ha, h0, h1, List.replicate, e1, e2, takeV]
end LP
set_option autoImplicit false
set_option linter.all false
set_option maxRecDepth 100000
set_option maxHeartbeats 1000000
namespace LP
open PySem LP.T
/-- the box: three ints, at most k draws -/
def Bx (k : Int) (b : List D) : Prop := ∃ x y c : Int, b = [.int x, .int y, .int c] ∧ 0 ≤ c ∧ c ≤ k
theorem Bx.mono {k l : Int} {b : List D} (h : Bx k b) (hl : k ≤ l) : Bx l b := by
  obtain ⟨x, y, c, e, h0, h1⟩ := h
  exact ⟨x, y, c, e, h0, by omega⟩
theorem Bx.nl {k : Int} {b : List D} (h : Bx k b) : hasListAll b = false := by
  obtain ⟨x, y, c, rfl, _⟩ := h
  rfl
theorem take_bx {P : Prog} (hp : P.defs 15 = some ⟨1, 2, 6, b_law_take⟩) {n : Nat} {m k : Int} {b : List D} (h0 : 0 < m) (h1 : m < 1073741824) (hb : Bx k b) (hk : k < 2 ^ 60) :
    ∃ v b', evC P (n + 1) 15 [.int m] [b] = .ok (.int v, [b']) ∧ 0 ≤ v ∧ v < m ∧ Bx (k + 1) b' := by
  obtain ⟨x, y, c, rfl, hc0, hc1⟩ := hb
  obtain ⟨v, a', c', e, g1, g2, g3, g4⟩ := take_ok hp (n := n) (a := x) (b := y) h0 h1 hc0 (by omega)
  exact ⟨v, _, e, g1, g2, a', y, c', rfl, by omega, by omega⟩
/-- a comprehension with a word that is kept -/
theorem compLoop_inv {f : D → Cs → R (Option D × Cs)} {I : Nat → Cs → Prop} {Pd : D → Prop} : ∀ {xs : List D} {cs : Cs} {i : Nat}, (∀ x ∈ xs, ∀ j cs, j < i + xs.length → I j cs → ∃ o cs', f x cs = .ok (o, cs') ∧ I (j + 1) cs' ∧ ∀ y, o = some y → Pd y) → I i cs →
    ∃ ys cs', compLoop f xs cs = .ok (ys, cs') ∧ I (i + xs.length) cs' ∧ (∀ y ∈ ys, Pd y) ∧ ys.length ≤ xs.length
  | [], cs, i, _, hi => ⟨[], cs, rfl, hi, fun y hy => by simp at hy, Nat.le_refl _⟩
  | x :: xs, cs, i, h, hi => by
    obtain ⟨o, cs1, e1, i1, p1⟩ := h x (List.mem_cons_self ..) i cs (by simp) hi
    obtain ⟨ys, cs2, e2, i2, p2, l2⟩ := compLoop_inv (i := i + 1) (fun z hz j cs hj hI => h z (List.mem_cons_of_mem _ hz) j cs (by rw [List.length_cons]; omega) hI) i1
    refine ⟨_, cs2, by simp only [compLoop, e1, e2, R.ok_bind]; rfl, by rw [List.length_cons]; rw [show i + (xs.length + 1) = i + 1 + xs.length by omega]; exact i2, ?_, ?_⟩
    · cases o with
      | none => exact p2
      | some y =>
        intro z hz
        rcases List.mem_cons.mp hz with hz | hz
        · rw [hz]; exact p1 y rfl
        · exact p2 z hz
    · cases o with
      | none => simp only [List.length_cons]; omega
      | some y => simp only [List.length_cons]; omega
theorem comp_ok {G : Gx} {tg : Tg} {src cond elt : E} {vs : Vs} {cs cs1 cs2 : Cs} {d : D} {xs ys : List D} (hs : evE G src vs cs = .ok (d, cs1)) (hq : seqOf d = .ok xs) (hn : noCel tg vs = true) (hL : compLoop (compF G tg cond elt vs) xs cs1 = .ok (ys, cs2)) :
    evE G (.comp tg src cond elt) vs cs = .ok (.list ys, cs2) := by
  rw [evE_comp, hs]
  simp only [R.ok_bind, hq, hn, R.chk, if_true, hL]
theorem evC_ok {P : Prog} {n f : Nat} {d : Def} {ds : List D} {cs : Cs} {r : Fl} {o : D × Cs} (hd : P.defs f = some d) (hl : cs.length = d.nr ∧ d.nr + ds.length = d.np) (he : evS ⟨P.consts, evC P n⟩ d.nr d.body (startV d.nr ds d.ns) cs = .ok r) (ho : outOf d.nr r = .ok o) : evC P (n + 1) f ds cs = .ok o := by
  simp only [evC, hd, R.chk, decide_eq_true hl, if_true, R.ok_bind, he, ho]
/-- a clause: areas, each with a side -/
def clD (cl : List (Str × Bool)) : D := .tuple (cl.map fun p => .tuple [.str p.1, .bool p.2])
theorem clause_ok {P : Prog} (hp : P.defs 15 = some ⟨1, 2, 6, b_law_take⟩) (hq : P.defs 23 = some ⟨1, 2, 5, b_law_clause⟩) {n : Nat} {k : Int} {b : List D} {A : D} {ss : List Str} (hA : seqOf A = .ok (ss.map .str)) (hb : Bx k b) (hk : k + ss.length < 2 ^ 60) :
    ∃ cl b', evC P (n + 2) 23 [A] [b] = .ok (clD cl, [b']) ∧ (∀ p ∈ cl, p.1 ∈ ss) ∧ cl.length ≤ ss.length ∧ Bx (k + ss.length) b' := by
  -- the draws
  have d1 := compLoop_inv (f := compF ⟨P.consts, evC P (n + 1)⟩ (.nm 3) (.lit (.bool true)) (.tup (.cons (.var 3) (.cons (.call 15 [0] (.cons (.lit (.int 4)) .nil)) .nil))) [.c 0, .v A, .un, .un, .un]) (xs := ss.map .str) (cs := [b]) (i := 0)
      (I := fun i cs => ∃ b', cs = [b'] ∧ Bx (k + (i : Int)) b') (Pd := fun y => ∃ s ∈ ss, ∃ v : Int, y = .tuple [.str s, .int v]) (fun x hx j cs hj hI => ?_) ⟨b, rfl, by simpa using hb⟩
  · obtain ⟨ys, cs', e1, ⟨b', rfl, hb'⟩, hy, hl⟩ := d1
    have d2 := compLoop_inv (f := compF ⟨P.consts, evC P (n + 1)⟩ (.tp [3, 4]) (.o2 .lt (.var 4) (.lit (.int 2))) (.tup (.cons (.var 3) (.cons (.o2 .eq (.var 4) (.lit (.int 1))) .nil))) [.c 0, .v A, .v (.list ys), .un, .un]) (xs := ys) (cs := [b']) (i := 0)
      (I := fun i cs => cs = [b']) (Pd := fun y => ∃ s ∈ ss, ∃ v : Bool, y = .tuple [.str s, .bool v]) (fun x hx j cs hj hI => ?_) rfl
    · obtain ⟨zs, cs2, e2, rfl, hz, hl2⟩ := d2
      have cls : ∀ l : List D, (∀ y ∈ l, ∃ s ∈ ss, ∃ v : Bool, y = .tuple [.str s, .bool v]) → ∃ cl : List (Str × Bool), l = cl.map (fun p => .tuple [.str p.1, .bool p.2]) ∧ ∀ p ∈ cl, p.1 ∈ ss := fun l => by
        induction l with
        | nil => intro _; exact ⟨[], rfl, fun p hp => by cases hp⟩
        | cons y l ih =>
          intro h
          obtain ⟨cl, e, h'⟩ := ih fun z hz => h z (List.mem_cons_of_mem _ hz)
          obtain ⟨s, hs, v, ey⟩ := h y (List.mem_cons_self ..)
          refine ⟨(s, v) :: cl, by rw [e, ey]; rfl, fun p hp => ?_⟩
          rcases List.mem_cons.mp hp with q | q
          · rw [q]; exact hs
          · exact h' p q
      obtain ⟨cl, ec, hcl⟩ := cls zs hz
      refine ⟨cl, b', ?_, hcl, ?_, ?_⟩
      · refine evC_ok hq ⟨rfl, rfl⟩ (r := .rt (clD cl) [b']) ?_ rfl
        show evS ⟨P.consts, evC P (n + 1)⟩ 1 b_law_clause [.c 0, .v A, .un, .un, .un] [b] = _
        have c1 := comp_ok (G := ⟨P.consts, evC P (n + 1)⟩) (src := .var 1) (vs := [.c 0, .v A, .un, .un, .un]) (cs := [b]) rfl hA rfl e1
        have c2 := comp_ok (G := ⟨P.consts, evC P (n + 1)⟩) (src := .var 2) (vs := [.c 0, .v A, .v (.list ys), .un, .un]) (cs := [b']) rfl rfl rfl e2
        have c3 : evE ⟨P.consts, evC P (n + 1)⟩ (.o1 .tup (.comp (.tp [3, 4]) (.var 2) (.o2 .lt (.var 4) (.lit (.int 2))) (.tup (.cons (.var 3) (.cons (.o2 .eq (.var 4) (.lit (.int 1))) .nil))))) [.c 0, .v A, .v (.list ys), .un, .un] [b'] = .ok (clD cl, [b']) := by
          simp only [evE] at c2 ⊢
          rw [c2]
          rw [ec]; rfl
        simp only [b_law_clause, evS]
        rw [c1]
        simp only [R.ok_bind]
        show (do let (d, cs) ← evE ⟨P.consts, evC P (n + 1)⟩ _ [.c 0, .v A, .v (.list ys), .un, .un] [b']; R.ok (Fl.rt d cs)) = _
        rw [c3]
        rfl
      · have := congrArg List.length ec
        simp only [List.length_map] at this hl
        omega
      · simpa using hb'
    · subst hI
      obtain ⟨s, hs, v, rfl⟩ := hy x hx
      by_cases hv : v < 2
      · refine ⟨some (.tuple [.str s, .bool (decide (v = 1))]), [b'], ?_, rfl, fun y hy => ?_⟩
        · simp [compF, bindTg, itemsOf, bindAll, evE, getV, op2, R.chk, tru, hv, PyData.depth, PyData.eqv, notNone, dlt, PySem.W.alike, alk, Bool.beq_eq_decide_eq]
        · cases hy; exact ⟨s, hs, _, rfl⟩
      · refine ⟨none, [b'], ?_, rfl, fun y hy => by cases hy⟩
        simp [compF, bindTg, itemsOf, bindAll, evE, getV, op2, R.chk, tru, hv, PyData.depth, PyData.eqv, notNone, dlt, PySem.W.alike, alk]
  · obtain ⟨s, hs, rfl⟩ := List.mem_map.mp hx
    obtain ⟨b', rfl, hb'⟩ := hI
    simp only [List.length_map] at hj
    obtain ⟨v, b2, e, g1, g2, g3⟩ := take_bx hp (n := n) (m := 4) (by decide) (by decide) hb' (by omega)
    refine ⟨some (.tuple [.str s, .int v]), [b2], ?_, ⟨b2, rfl, g3.mono (by push_cast; omega)⟩, fun y hy => by cases hy; exact ⟨s, hs, v, rfl⟩⟩
    simp [compF, bindTg, evE, getV, getC, cellsAt, putCells, tru, e, lends, owned, hasList, R.chk, g3.nl]
end LP
set_option autoImplicit false
set_option linter.all false
set_option maxRecDepth 100000
set_option maxHeartbeats 1000000
namespace LP
open PySem LP.T
theorem lift_map {α : Type} {f : α → D} {Pd : α → Prop} : ∀ {l : List D}, (∀ y ∈ l, ∃ x, Pd x ∧ y = f x) → ∃ xs : List α, l = xs.map f ∧ ∀ x ∈ xs, Pd x
  | [], _ => ⟨[], rfl, fun x hx => by cases hx⟩
  | y :: l, h => by
    obtain ⟨xs, e, hx⟩ := lift_map fun z hz => h z (List.mem_cons_of_mem _ hz)
    obtain ⟨x, h1, h2⟩ := h y (List.mem_cons_self ..)
    refine ⟨x :: xs, by rw [e, h2]; rfl, fun z hz => ?_⟩
    rcases List.mem_cons.mp hz with q | q
    · rw [q]; exact h1
    · exact hx z q
/-- all areas are known -/
def ClIn (ss : List Str) (cl : List (Str × Bool)) : Prop := (∀ p ∈ cl, p.1 ∈ ss) ∧ cl.length ≤ ss.length
def cuD (cu : List (List (Str × Bool))) : D := .tuple (cu.map clD)
theorem cl_nolist (cl : List (Str × Bool)) : hasList (clD cl) = false := by
  simp only [clD, hasList]
  induction cl with
  | nil => rfl
  | cons p cl ih => simp only [List.map_cons, hasListAll, ih]; rfl
theorem cl_depth (cl : List (Str × Bool)) : (clD cl).depth ≤ 2 := by
  simp only [clD, PyData.depth]
  have : ∀ l : List (Str × Bool), PyData.depthAll (l.map fun p => PyData.tuple [.str p.1, .bool p.2]) ≤ 1 := fun l => by
    induction l with
    | nil => simp [PyData.depthAll]
    | cons p l ih => simp only [List.map_cons, PyData.depthAll, PyData.depth]; omega
  have := this cl
  omega
theorem cl_alk (a b : List (Str × Bool)) : alk (clD a) (clD b) = true := by
  simp only [clD, alk, PySem.W.alike]
  induction a generalizing b with
  | nil => simp [PySem.W.alikeAll]
  | cons p a ih =>
    cases b with
    | nil => simp [PySem.W.alikeAll]
    | cons q b => simp only [List.map_cons, PySem.W.alikeAll, ih b]; rfl
theorem cls_alk : ∀ l : List (List (Str × Bool)), allAlk (l.map clD) = true
  | [] => rfl
  | a :: l => by
    simp only [List.map_cons, allAlk, cl_alk, cls_alk l, Bool.true_and, Bool.and_true, List.all_map, List.all_eq_true]
    intro x _
    simp [cl_alk]
/-- sorted(set(..)) of clauses -/
theorem sset_cl {l : List (List (Str × Bool))} {ss : List Str} (h4 : l.length ≤ 4) (hl : ∀ c ∈ l, ClIn ss c) : ∃ cu : List (List (Str × Bool)), op1 .sset (.list (l.map clD)) = .ok (.list (cu.map clD)) ∧ ∀ c ∈ cu, ClIn ss c := by
  have hm : ∀ y ∈ isort (nub (l.map clD)), ∃ x, ClIn ss x ∧ y = clD x := fun y hy => by
    have := nub_sub (isort_mem.mp hy)
    obtain ⟨x, hx, rfl⟩ := List.mem_map.mp this
    exact ⟨x, hl x hx, rfl⟩
  obtain ⟨cu, e, hc⟩ := lift_map hm
  refine ⟨cu, ?_, hc⟩
  have c1 : (decide ((l.map clD).length ≤ 4) && (l.map clD).all (fun d => !hasList d && isTupD d && decide (d.depth ≤ 8)) && allAlk (l.map clD)) = true := by
    simp only [cls_alk, Bool.and_true, Bool.and_eq_true, decide_eq_true_eq, List.length_map, List.all_map, List.all_eq_true]
    refine ⟨h4, fun x _ => ?_⟩
    simp only [Function.comp, cl_nolist, Bool.not_false, Bool.true_and, Bool.and_eq_true, decide_eq_true_eq]
    exact ⟨rfl, Nat.le_trans (cl_depth x) (by decide)⟩
  simp only [op1, R.chk, c1, if_true, R.ok_bind, e]
theorem cut_ok {P : Prog} (hp : P.defs 15 = some ⟨1, 2, 6, b_law_take⟩) (hq : P.defs 23 = some ⟨1, 2, 5, b_law_clause⟩) (hr : P.defs 24 = some ⟨1, 3, 4, b_law_cut⟩) {n : Nat} {k m : Int} {b : List D} {A : D} {ss : List Str} (hA : seqOf A = .ok (ss.map .str)) (hb : Bx k b)
    (hm0 : 0 ≤ m) (hm : m ≤ 4) (hs : ss.length ≤ 10) (hk : k < 2 ^ 50) :
    ∃ (cu : List (List (Str × Bool))) (b' : List D), evC P (n + 3) 24 [A, .int m] [b] = .ok (cuD cu, [b']) ∧ (∀ c ∈ cu, ClIn ss c) ∧ Bx (k + 50) b' := by
  obtain ⟨v, b1, e1, g1, g2, g3⟩ := take_bx hp (n := n + 1) (m := m + 1) (by omega) (by omega) hb (by omega)
  have d1 := compLoop_inv (f := compF ⟨P.consts, evC P (n + 2)⟩ (.nm 3) (.lit (.bool true)) (.call 23 [0] (.cons (.var 1) .nil)) [.c 0, .v A, .v (.int m), .un]) (xs := (List.range v.toNat).map fun (k : Nat) => .int (k : Int)) (cs := [b1]) (i := 0)
      (I := fun i cs => ∃ b', cs = [b'] ∧ Bx (k + 1 + 10 * (i : Int)) b') (Pd := fun y => ∃ cl, ClIn ss cl ∧ y = clD cl) (fun x hx j cs hj hI => ?_) ⟨b1, rfl, by simpa using g3⟩
  · obtain ⟨ys, cs', e2, ⟨b', rfl, hb'⟩, hy, hl⟩ := d1
    obtain ⟨l, rfl, hll⟩ := lift_map hy
    simp only [List.length_map, List.length_range] at hl hb'
    obtain ⟨cu, e3, hcu⟩ := sset_cl (by omega) hll
    refine ⟨cu, b', ?_, hcu, hb'.mono (by push_cast; omega)⟩
    refine evC_ok hr ⟨rfl, rfl⟩ (r := .rt (cuD cu) [b']) ?_ rfl
    show evS ⟨P.consts, evC P (n + 2)⟩ 1 b_law_cut [.c 0, .v A, .v (.int m), .un] [b] = _
    have s1 : evE ⟨P.consts, evC P (n + 2)⟩ (.rng1 (.call 15 [0] (.cons (.o2 .add (.var 2) (.lit (.int 1))) .nil))) [.c 0, .v A, .v (.int m), .un] [b] = .ok (.list ((List.range v.toNat).map fun (k : Nat) => .int (k : Int)), [b1]) := by
      have hv : v ≤ 16777216 ∧ -4611686018427387904 ≤ v := by omega
      simp [evE, getV, getC, cellsAt, putCells, op2, e1, lends, owned, hasList, R.chk, g3.nl, asInt, hv]
    have c1 := comp_ok (G := ⟨P.consts, evC P (n + 2)⟩) (vs := [.c 0, .v A, .v (.int m), .un]) (cs := [b]) s1 rfl rfl e2
    have c3 : evE ⟨P.consts, evC P (n + 2)⟩ (.o1 .tup (.o1 .sset (.comp (.nm 3) (.rng1 (.call 15 [0] (.cons (.o2 .add (.var 2) (.lit (.int 1))) .nil))) (.lit (.bool true)) (.call 23 [0] (.cons (.var 1) .nil))))) [.c 0, .v A, .v (.int m), .un] [b] = .ok (cuD cu, [b']) := by
      rw [evE, evE, c1]
      simp only [R.ok_bind, e3]
      rfl
    simp only [b_law_cut, evS]
    rw [c3]
    rfl
  · obtain ⟨b', rfl, hb'⟩ := hI
    simp only [List.length_map, List.length_range] at hj
    obtain ⟨cl, b2, e, g4, g5, g6⟩ := clause_ok hp hq (n := n) hA hb' (by omega)
    refine ⟨some (clD cl), [b2], ?_, ⟨b2, rfl, g6.mono (by push_cast; omega)⟩, fun y hy => by cases hy; exact ⟨cl, ⟨g4, g5⟩, rfl⟩⟩
    simp [compF, bindTg, evE, getV, getC, cellsAt, putCells, tru, e, lends, owned, R.chk, g6.nl, cl_nolist]
end LP
set_option autoImplicit false
set_option linter.all false
set_option maxRecDepth 100000
set_option maxHeartbeats 1000000
namespace LP
open PySem LP.T
theorem place_ok {n : Nat} {v : Int} (h0 : 0 ≤ v) (h1 : v < n) : place n v = some v.toNat := by
  unfold place
  rw [if_pos h0, if_pos h1]
theorem of_ok {P : Prog} (hp : P.defs 15 = some ⟨1, 2, 6, b_law_take⟩) (hq : P.defs 19 = some ⟨1, 2, 2, b_law_of⟩) {n : Nat} {k : Int} {b xs : List D} {A : D} (hA : A = .list xs ∨ A = .tuple xs) (hn : xs ≠ []) (hl : xs.length < 1000000) (hb : Bx k b) (hk : k < 2 ^ 60) :
    ∃ x b', x ∈ xs ∧ evC P (n + 2) 19 [A] [b] = .ok (x, [b']) ∧ Bx (k + 1) b' := by
  have hpos : 0 < xs.length := List.length_pos_iff.mpr hn
  obtain ⟨v, b1, e1, g1, g2, g3⟩ := take_bx hp (n := n) (m := (xs.length : Int)) (by omega) (by omega) hb hk
  have hlt : v.toNat < xs.length := by omega
  refine ⟨xs[v.toNat], b1, List.getElem_mem hlt, ?_, g3⟩
  refine evC_ok hq ⟨rfl, rfl⟩ (r := .rt xs[v.toNat] [b1]) ?_ rfl
  show evS ⟨P.consts, evC P (n + 1)⟩ 1 b_law_of [.c 0, .v A] [b] = _
  have hget : xs[v.toNat]? = some xs[v.toNat] := List.getElem?_eq_getElem hlt
  rcases hA with rfl | rfl
  · simp [b_law_of, evS, evE, getV, getC, cellsAt, putCells, op1, op2, itemsOf, e1, lends, owned, hasList, R.chk, g3.nl, place_ok g1 g2, hget]
  · simp [b_law_of, evS, evE, getV, getC, cellsAt, putCells, op1, op2, itemsOf, e1, lends, owned, hasList, R.chk, g3.nl, place_ok g1 g2, hget]
end LP
set_option autoImplicit false
set_option linter.all false
set_option maxRecDepth 100000
set_option maxHeartbeats 1000000
namespace LP
open PySem LP.T
theorem compLoop_fm {f : D → Cs → R (Option D × Cs)} {cs : Cs} (g : D → Option D) : ∀ {xs : List D}, (∀ x ∈ xs, f x cs = .ok (g x, cs)) → compLoop f xs cs = .ok (xs.filterMap g, cs)
  | [], _ => rfl
  | x :: xs, h => by
    simp only [compLoop, h x (List.mem_cons_self ..), compLoop_fm g (fun z hz => h z (List.mem_cons_of_mem _ hz)), R.ok_bind, List.filterMap_cons]
    cases g x <;> rfl
theorem compLoop_map {f : D → Cs → R (Option D × Cs)} {cs : Cs} (g : D → D) {xs : List D} (h : ∀ x ∈ xs, f x cs = .ok (some (g x), cs)) : compLoop f xs cs = .ok (xs.map g, cs) := by
  rw [compLoop_fm (fun x => some (g x)) h]
  simp
mutual
/-- lists made tuples -/
def tupD : D → D
  | .list xs => .tuple (tupDs xs)
  | .tuple xs => .tuple (tupDs xs)
  | d => d
def tupDs : List D → List D
  | [] => []
  | x :: xs => tupD x :: tupDs xs
end
theorem tupDs_map : ∀ xs : List D, tupDs xs = xs.map tupD
  | [] => rfl
  | x :: xs => by rw [tupDs, tupDs_map xs]; rfl
theorem depth_mem : ∀ {xs : List D} {x : D}, x ∈ xs → x.depth ≤ PyData.depthAll xs
  | y :: ys, x, h => by
    simp only [PyData.depthAll]
    rcases List.mem_cons.mp h with e | h
    · rw [e]; omega
    · have := depth_mem h; omega
theorem tupled_ok {P : Prog} (hp : P.defs 0 = some ⟨0, 1, 2, b_tupled⟩) : ∀ (n : Nat) (d : D), d.depth < n → evC P n 0 [d] [] = .ok (tupD d, [])
  | 0, d, h => by omega
  | n + 1, d, h => by
    refine evC_ok hp ⟨rfl, rfl⟩ (r := .rt (tupD d) []) ?_ rfl
    show evS ⟨P.consts, evC P n⟩ 0 b_tupled [.v d, .un] [] = _
    have key : ∀ xs : List D, (∀ x ∈ xs, x.depth < n) → compLoop (compF ⟨P.consts, evC P n⟩ (.nm 1) (.lit (.bool true)) (.call 0 [] (.cons (.var 1) .nil)) [.v d, .un]) xs [] = .ok (xs.map tupD, []) := fun xs hx => by
      refine compLoop_map tupD fun x hm => ?_
      have e := tupled_ok hp n x (hx x hm)
      simp [compF, bindTg, evE, getV, cellsAt, putCells, tru, e, lends, owned, R.chk]
    have ch : ∀ xs : List D, (d = .list xs ∨ d = .tuple xs) → ∀ x ∈ xs, x.depth < n := fun xs hd x hx => by
      have := depth_mem hx
      rcases hd with rfl | rfl
      · simp only [PyData.depth] at h; omega
      · simp only [PyData.depth] at h; omega
    cases d with
    | list xs =>
      have c := comp_ok (G := ⟨P.consts, evC P n⟩) (src := .var 0) (vs := [.v (.list xs), .un]) (cs := []) rfl rfl rfl (key xs (ch xs (.inl rfl)))
      simp only [b_tupled, evS]
      rw [evE]
      simp only [show evE ⟨P.consts, evC P n⟩ (.isi (.var 0) [.list, .tuple]) [.v (.list xs), .un] [] = .ok (.bool true, []) from rfl, R.ok_bind, tru, if_true]
      rw [evE, c]
      simp only [R.ok_bind, op1, itemsOf, tupD, tupDs_map]
    | tuple xs =>
      have c := comp_ok (G := ⟨P.consts, evC P n⟩) (src := .var 0) (vs := [.v (.tuple xs), .un]) (cs := []) rfl rfl rfl (key xs (ch xs (.inr rfl)))
      simp only [b_tupled, evS]
      rw [evE]
      simp only [show evE ⟨P.consts, evC P n⟩ (.isi (.var 0) [.list, .tuple]) [.v (.tuple xs), .un] [] = .ok (.bool true, []) from rfl, R.ok_bind, tru, if_true]
      rw [evE, c]
      simp only [R.ok_bind, op1, itemsOf, tupD, tupDs_map]
    | _ => rfl
def spD (sp : List Str) : D := .tuple (sp.map .str)
def keepsB (sp : List Str) (cl : List (Str × Bool)) : Bool := cl.all fun p => sp.contains p.1 == p.2
def inB (sp : List Str) (cu : List (List (Str × Bool))) : Bool := cu.any (keepsB sp)
theorem any_str (sp : List Str) (a : Str) : (sp.map PyData.str).any (fun z => PyData.eqv z (.str a)) = sp.contains a := by
  induction sp with
  | nil => rfl
  | cons x sp ih =>
    simp only [List.map_cons, List.any_cons, ih, PyData.eqv, List.contains_cons]
    congr 1
    rw [Bool.eq_iff_iff]
    simp only [beq_iff_eq]
    exact ⟨fun h => h.symm, fun h => h.symm⟩
theorem isin_str {sp : List Str} {a : Str} : op2 .isin (.str a) (spD sp) = .ok (.bool (sp.contains a)) := by
  simp only [op2, spD, itemsOf, R.ok_bind, R.chk, PyData.depth, any_str]
  rfl
theorem keeps_ok {P : Prog} (hp : P.defs 1 = some ⟨0, 2, 4, b_keeps⟩) {n : Nat} (sp : List Str) (cl : List (Str × Bool)) : evC P (n + 1) 1 [spD sp, clD cl] [] = .ok (.bool (keepsB sp cl), []) := by
  refine evC_ok hp ⟨rfl, rfl⟩ (r := .rt (.bool (keepsB sp cl)) []) ?_ rfl
  show evS ⟨P.consts, evC P n⟩ 0 b_keeps [.v (spD sp), .v (clD cl), .un, .un] [] = _
  have key : compLoop (compF ⟨P.consts, evC P n⟩ (.tp [2, 3]) (.lit (.bool true)) (.o2 .eq (.o2 .isin (.var 2) (.var 0)) (.var 3)) [.v (spD sp), .v (clD cl), .un, .un]) (cl.map fun p => .tuple [.str p.1, .bool p.2]) [] = .ok (cl.map fun p => .bool (sp.contains p.1 == p.2), []) := by
    have : ∀ l : List (Str × Bool), compLoop (compF ⟨P.consts, evC P n⟩ (.tp [2, 3]) (.lit (.bool true)) (.o2 .eq (.o2 .isin (.var 2) (.var 0)) (.var 3)) [.v (spD sp), .v (clD cl), .un, .un]) (l.map fun p => .tuple [.str p.1, .bool p.2]) [] = .ok (l.map fun p => .bool (sp.contains p.1 == p.2), []) := fun l => by
      induction l with
      | nil => rfl
      | cons p l ih =>
        have e : compF ⟨P.consts, evC P n⟩ (.tp [2, 3]) (.lit (.bool true)) (.o2 .eq (.o2 .isin (.var 2) (.var 0)) (.var 3)) [.v (spD sp), .v (clD cl), .un, .un] (.tuple [.str p.1, .bool p.2]) [] = .ok (some (.bool (sp.contains p.1 == p.2)), []) := by
          simp only [compF, bindTg, itemsOf, bindAll, R.ok_bind, List.set, evE, getV, List.getElem?_cons_succ, List.getElem?_cons_zero, tru, if_true, isin_str]
          rfl
        simp only [List.map_cons, compLoop, e, ih, R.ok_bind]
    exact this cl
  have c := comp_ok (G := ⟨P.consts, evC P n⟩) (src := .var 1) (vs := [.v (spD sp), .v (clD cl), .un, .un]) (cs := []) rfl rfl rfl key
  simp only [b_keeps, evS]
  rw [evE, c]
  have h2 : ∀ l : List (Str × Bool), allM asBool (l.map fun p => PyData.bool (sp.contains p.1 == p.2)) = .ok (l.map fun p => sp.contains p.1 == p.2) := fun l => by
    induction l with
    | nil => rfl
    | cons p l ih => simp only [List.map_cons, allM, asBool, ih, R.ok_bind]
  simp only [R.ok_bind, op1, h2, keepsB, List.all_map]
  rfl
theorem isin_ok {P : Prog} (hp : P.defs 1 = some ⟨0, 2, 4, b_keeps⟩) (hq : P.defs 2 = some ⟨0, 2, 3, b_is_in⟩) {n : Nat} (sp : List Str) (cu : List (List (Str × Bool))) : evC P (n + 2) 2 [spD sp, cuD cu] [] = .ok (.bool (inB sp cu), []) := by
  refine evC_ok hq ⟨rfl, rfl⟩ (r := .rt (.bool (inB sp cu)) []) ?_ rfl
  show evS ⟨P.consts, evC P (n + 1)⟩ 0 b_is_in [.v (spD sp), .v (cuD cu), .un] [] = _
  have key : ∀ l : List (List (Str × Bool)), compLoop (compF ⟨P.consts, evC P (n + 1)⟩ (.nm 2) (.lit (.bool true)) (.call 1 [] (.cons (.var 0) (.cons (.var 2) .nil))) [.v (spD sp), .v (cuD cu), .un]) (l.map clD) [] = .ok (l.map fun c => .bool (keepsB sp c), []) := fun l => by
    induction l with
    | nil => rfl
    | cons c l ih =>
      have e : compF ⟨P.consts, evC P (n + 1)⟩ (.nm 2) (.lit (.bool true)) (.call 1 [] (.cons (.var 0) (.cons (.var 2) .nil))) [.v (spD sp), .v (cuD cu), .un] (clD c) [] = .ok (some (.bool (keepsB sp c)), []) := by
        have := keeps_ok hp (n := n) sp c
        simp [compF, bindTg, evE, getV, cellsAt, putCells, tru, this, lends, owned, R.chk]
      simp only [List.map_cons, compLoop, e, ih, R.ok_bind]
  have c := comp_ok (G := ⟨P.consts, evC P (n + 1)⟩) (src := .var 1) (vs := [.v (spD sp), .v (cuD cu), .un]) (cs := []) rfl rfl rfl (key cu)
  simp only [b_is_in, evS]
  rw [evE, c]
  have h2 : ∀ l : List (List (Str × Bool)), allM asBool (l.map fun c => PyData.bool (keepsB sp c)) = .ok (l.map (keepsB sp)) := fun l => by
    induction l with
    | nil => rfl
    | cons p l ih => simp only [List.map_cons, allM, asBool, ih, R.ok_bind]
  simp only [R.ok_bind, op1, h2, inB, List.any_map]
  rfl
end LP
set_option autoImplicit false
set_option linter.all false
set_option maxRecDepth 100000
set_option maxHeartbeats 1000000
/-! what the operations come to, on constructors -/
namespace LP
open PySem LP.T
theorem op_idx_t (xs : List D) (i : Int) : op2 .idx (.tuple xs) (.int i) = (do let k ← R.ofO (place xs.length i); R.ofO xs[k]?) := rfl
theorem op_idx_l (xs : List D) (i : Int) : op2 .idx (.list xs) (.int i) = (do let k ← R.ofO (place xs.length i); R.ofO xs[k]?) := rfl
theorem eqv_ss (a b : Str) : PyData.eqv (.str a) (.str b) = decide (a = b) := by simp only [PyData.eqv]; rw [Bool.eq_iff_iff]; simp
theorem eqv_bb (a b : Bool) : PyData.eqv (.bool a) (.bool b) = (a == b) := by simp only [PyData.eqv]
theorem eqv_ii (a b : Int) : PyData.eqv (.int a) (.int b) = decide (a = b) := by simp only [PyData.eqv]; rw [Bool.eq_iff_iff]; simp
theorem op_eq_ss (a b : Str) : op2 .eq (.str a) (.str b) = .ok (.bool (decide (a = b))) := by simp only [op2, PyData.depth, eqv_ss]; rfl
theorem op_ne_ss (a b : Str) : op2 .ne (.str a) (.str b) = .ok (.bool (!decide (a = b))) := by simp only [op2, PyData.depth, eqv_ss]; rfl
theorem op_eq_bb (a b : Bool) : op2 .eq (.bool a) (.bool b) = .ok (.bool (a == b)) := by simp only [op2, PyData.depth, eqv_bb]; rfl
theorem op_isin_t (a : Str) (xs : List D) : op2 .isin (.str a) (.tuple xs) = .ok (.bool (xs.any fun z => PyData.eqv z (.str a))) := by simp only [op2, itemsOf, PyData.depth, R.ok_bind]; rfl
theorem op_notin_t (a : Str) (xs : List D) : op2 .notin (.str a) (.tuple xs) = .ok (.bool (!xs.any fun z => PyData.eqv z (.str a))) := by simp only [op2, itemsOf, PyData.depth, R.ok_bind]; rfl
theorem op_add_ii (a b : Int) : op2 .add (.int a) (.int b) = .ok (.int (a + b)) := rfl
theorem op_neg (a : Int) : op1 .neg (.int a) = .ok (.int (-a)) := rfl
theorem op_nt (a : Bool) : op1 .nt (.bool a) = .ok (.bool (!a)) := rfl
theorem tru_b (a : Bool) : tru (.bool a) = .ok a := rfl
end LP
set_option autoImplicit false
set_option linter.all false
set_option maxRecDepth 100000
set_option maxHeartbeats 1000000
namespace LP
open PySem LP.T
@[simp] theorem w_give_vest : (Str.ofString "give" = Str.ofString "vest") = False := eq_false (by decide)
@[simp] theorem w_give_swap : (Str.ofString "give" = Str.ofString "swap") = False := eq_false (by decide)
@[simp] theorem w_give_way : (Str.ofString "give" = Str.ofString "way") = False := eq_false (by decide)
@[simp] theorem w_give_end : (Str.ofString "give" = Str.ofString "end") = False := eq_false (by decide)
@[simp] theorem w_give_charge : (Str.ofString "give" = Str.ofString "charge") = False := eq_false (by decide)
@[simp] theorem w_vest_give : (Str.ofString "vest" = Str.ofString "give") = False := eq_false (by decide)
@[simp] theorem w_vest_swap : (Str.ofString "vest" = Str.ofString "swap") = False := eq_false (by decide)
@[simp] theorem w_vest_way : (Str.ofString "vest" = Str.ofString "way") = False := eq_false (by decide)
@[simp] theorem w_vest_end : (Str.ofString "vest" = Str.ofString "end") = False := eq_false (by decide)
@[simp] theorem w_vest_charge : (Str.ofString "vest" = Str.ofString "charge") = False := eq_false (by decide)
@[simp] theorem w_swap_give : (Str.ofString "swap" = Str.ofString "give") = False := eq_false (by decide)
@[simp] theorem w_swap_vest : (Str.ofString "swap" = Str.ofString "vest") = False := eq_false (by decide)
@[simp] theorem w_swap_way : (Str.ofString "swap" = Str.ofString "way") = False := eq_false (by decide)
@[simp] theorem w_swap_end : (Str.ofString "swap" = Str.ofString "end") = False := eq_false (by decide)
@[simp] theorem w_swap_charge : (Str.ofString "swap" = Str.ofString "charge") = False := eq_false (by decide)
@[simp] theorem w_way_give : (Str.ofString "way" = Str.ofString "give") = False := eq_false (by decide)
@[simp] theorem w_way_vest : (Str.ofString "way" = Str.ofString "vest") = False := eq_false (by decide)
@[simp] theorem w_way_swap : (Str.ofString "way" = Str.ofString "swap") = False := eq_false (by decide)
@[simp] theorem w_way_end : (Str.ofString "way" = Str.ofString "end") = False := eq_false (by decide)
@[simp] theorem w_way_charge : (Str.ofString "way" = Str.ofString "charge") = False := eq_false (by decide)
@[simp] theorem w_end_give : (Str.ofString "end" = Str.ofString "give") = False := eq_false (by decide)
@[simp] theorem w_end_vest : (Str.ofString "end" = Str.ofString "vest") = False := eq_false (by decide)
@[simp] theorem w_end_swap : (Str.ofString "end" = Str.ofString "swap") = False := eq_false (by decide)
@[simp] theorem w_end_way : (Str.ofString "end" = Str.ofString "way") = False := eq_false (by decide)
@[simp] theorem w_end_charge : (Str.ofString "end" = Str.ofString "charge") = False := eq_false (by decide)
@[simp] theorem w_charge_give : (Str.ofString "charge" = Str.ofString "give") = False := eq_false (by decide)
@[simp] theorem w_charge_vest : (Str.ofString "charge" = Str.ofString "vest") = False := eq_false (by decide)
@[simp] theorem w_charge_swap : (Str.ofString "charge" = Str.ofString "swap") = False := eq_false (by decide)
@[simp] theorem w_charge_way : (Str.ofString "charge" = Str.ofString "way") = False := eq_false (by decide)
@[simp] theorem w_charge_end : (Str.ofString "charge" = Str.ofString "end") = False := eq_false (by decide)
abbrev Cut := List (List (Str × Bool))
inductive Deed where
  | give (x y : Str) (c : Cut) | swap (x y : Str) (c : Cut) | vest (y : Str) (c : Cut) | way (c d : Cut) | fin (c d : Cut) | charge (x : Str) (c : Cut)
def Deed.dat : Deed → D
  | .give x y c => .tuple [.str "give", .str x, .str y, cuD c]
  | .swap x y c => .tuple [.str "swap", .str x, .str y, cuD c]
  | .vest y c => .tuple [.str "vest", .str y, cuD c]
  | .way c d => .tuple [.str "way", cuD c, cuD d]
  | .fin c d => .tuple [.str "end", cuD c, cuD d]
  | .charge x c => .tuple [.str "charge", .str x, cuD c]
/-- who owns behind a deed -/
def ownA (sp : List Str) (o : Str) : Deed → Str
  | .give x y c => if inB sp c then (if o = x then y else o) else o
  | .swap x y c => if inB sp c then (if o = x then y else if o = y then x else o) else o
  | .vest y c => if inB sp c then y else o
  | _ => o
structure C18 (P : Prog) : Prop where
  c3 : P.consts 3 = some (.tuple [.str "give", .str "vest", .str "swap"])
  c4 : P.consts 4 = some (.str "vest")
  c5 : P.consts 5 = some (.str "swap")
  c8 : P.consts 8 = some (.str "end")
  c9 : P.consts 9 = some (.str "way")
theorem owner_ok {P : Prog} (C : C18 P) (hp : P.defs 1 = some ⟨0, 2, 4, b_keeps⟩) (hq : P.defs 2 = some ⟨0, 2, 3, b_is_in⟩) (hr : P.defs 6 = some ⟨0, 3, 3, b_owner_after⟩) {n : Nat} (sp : List Str) (o : Str) (d : Deed) :
    evC P (n + 3) 6 [d.dat, spD sp, .str o] [] = .ok (.str (ownA sp o d), []) := by
  refine evC_ok hr ⟨rfl, rfl⟩ (r := .rt (.str (ownA sp o d)) []) ?_ rfl
  show evS ⟨P.consts, evC P (n + 2)⟩ 0 b_owner_after [.v d.dat, .v (spD sp), .v (.str o)] [] = _
  have ii := fun cu => isin_ok hp hq (n := n) sp cu
  cases d with
  | give x y c =>
    by_cases hc : inB sp c = true
    · by_cases ho : o = x
      · simp [b_owner_after, Deed.dat, ownA, evS, evE, getV, op_idx_t, op_eq_ss, op_notin_t, op_neg, op_nt, tru_b, eqv_ss, place, C.c3, C.c4, C.c5, R.chk, cellsAt, putCells, ii, lends, owned, hasList, hc, ho]
      · simp [b_owner_after, Deed.dat, ownA, evS, evE, getV, op_idx_t, op_eq_ss, op_notin_t, op_neg, op_nt, tru_b, eqv_ss, place, C.c3, C.c4, C.c5, R.chk, cellsAt, putCells, ii, lends, owned, hasList, hc, ho]
    · simp [b_owner_after, Deed.dat, ownA, evS, evE, getV, op_idx_t, op_eq_ss, op_notin_t, op_neg, op_nt, tru_b, eqv_ss, place, C.c3, C.c4, C.c5, R.chk, cellsAt, putCells, ii, lends, owned, hasList, hc]
  | swap x y c =>
    by_cases hc : inB sp c = true
    · by_cases ho : o = x
      · simp [b_owner_after, Deed.dat, ownA, evS, evE, getV, op_idx_t, op_eq_ss, op_notin_t, op_neg, op_nt, tru_b, eqv_ss, place, C.c3, C.c4, C.c5, R.chk, cellsAt, putCells, ii, lends, owned, hasList, hc, ho]
      · by_cases ho2 : o = y
        · subst ho2
          simp [b_owner_after, Deed.dat, ownA, evS, evE, getV, op_idx_t, op_eq_ss, op_notin_t, op_neg, op_nt, tru_b, eqv_ss, place, C.c3, C.c4, C.c5, R.chk, cellsAt, putCells, ii, lends, owned, hasList, hc, ho]
        · simp [b_owner_after, Deed.dat, ownA, evS, evE, getV, op_idx_t, op_eq_ss, op_notin_t, op_neg, op_nt, tru_b, eqv_ss, place, C.c3, C.c4, C.c5, R.chk, cellsAt, putCells, ii, lends, owned, hasList, hc, ho, ho2]
    · simp [b_owner_after, Deed.dat, ownA, evS, evE, getV, op_idx_t, op_eq_ss, op_notin_t, op_neg, op_nt, tru_b, eqv_ss, place, C.c3, C.c4, C.c5, R.chk, cellsAt, putCells, ii, lends, owned, hasList, hc]
  | vest y c =>
    by_cases hc : inB sp c = true
    · simp [b_owner_after, Deed.dat, ownA, evS, evE, getV, op_idx_t, op_eq_ss, op_notin_t, op_neg, op_nt, tru_b, eqv_ss, place, C.c3, C.c4, C.c5, R.chk, cellsAt, putCells, ii, lends, owned, hasList, hc]
    · simp [b_owner_after, Deed.dat, ownA, evS, evE, getV, op_idx_t, op_eq_ss, op_notin_t, op_neg, op_nt, tru_b, eqv_ss, place, C.c3, C.c4, C.c5, R.chk, cellsAt, putCells, ii, lends, owned, hasList, hc]
  | way c d => simp [b_owner_after, Deed.dat, ownA, evS, evE, getV, op_idx_t, op_eq_ss, op_notin_t, op_neg, op_nt, tru_b, eqv_ss, place, C.c3, C.c4, C.c5, R.chk, cellsAt, putCells, ii, lends, owned, hasList]
  | fin c d => simp [b_owner_after, Deed.dat, ownA, evS, evE, getV, op_idx_t, op_eq_ss, op_notin_t, op_neg, op_nt, tru_b, eqv_ss, place, C.c3, C.c4, C.c5, R.chk, cellsAt, putCells, ii, lends, owned, hasList]
  | charge x c => simp [b_owner_after, Deed.dat, ownA, evS, evE, getV, op_idx_t, op_eq_ss, op_notin_t, op_neg, op_nt, tru_b, eqv_ss, place, C.c3, C.c4, C.c5, R.chk, cellsAt, putCells, ii, lends, owned, hasList]
end LP
set_option autoImplicit false
set_option linter.all false
set_option maxRecDepth 100000
set_option maxHeartbeats 1000000
namespace LP
open PySem LP.T
def hisD (h : List Deed) : D := .tuple (h.map Deed.dat)
def ownsFrom (sp : List Str) (o : Str) : List Deed → List Str
  | [] => []
  | d :: r => ownA sp o d :: ownsFrom sp (ownA sp o d) r
theorem place_last {n : Nat} (h : 0 < n) : place n (-1) = some (n - 1) := by
  unfold place
  rw [if_neg (by decide), if_pos (by omega)]
  congr 1
  omega
theorem owners_loop {P : Prog} (C : C18 P) (hp : P.defs 1 = some ⟨0, 2, 4, b_keeps⟩) (hq : P.defs 2 = some ⟨0, 2, 3, b_is_in⟩) (hr : P.defs 6 = some ⟨0, 3, 3, b_owner_after⟩) {n : Nat} (sp : List Str) (A F : D) : ∀ (h : List Deed) (acc : List D) (o : Str) (x4 : Sl), acc.length + h.length < 1000 →
    ∃ y4, forLoop (fun x vs cs => do let vs ← bindTg (.nm 4) x vs; evS ⟨P.consts, evC P (n + 3)⟩ 0 (.app 3 (.call 6 [] (.cons (.var 4) (.cons (.var 1) (.cons (.o2 .idx (.pk 3) (.o1 .neg (.lit (.int 1)))) .nil))))) vs cs) (h.map Deed.dat) [.v A, .v (spD sp), .v F, .c 0, x4] [acc ++ [PyData.str o]]
      = .ok (.nx [.v A, .v (spD sp), .v F, .c 0, y4] [acc ++ [PyData.str o] ++ (ownsFrom sp o h).map PyData.str])
  | [], acc, o, x4, _ => ⟨x4, by simp [forLoop, ownsFrom]⟩
  | d :: h, acc, o, x4, hl => by
    obtain ⟨y4, e⟩ := owners_loop C hp hq hr sp A F h (acc ++ [.str o]) (ownA sp o d) (.v d.dat) (by simp at hl ⊢; omega)
    refine ⟨y4, ?_⟩
    have ow := owner_ok C hp hq hr (n := n) sp o d
    have hlen : (acc ++ [PyData.str o]).length < sz := by simp [sz] at hl ⊢; omega
    have hpl : place (acc ++ [PyData.str o]).length (-1) = some acc.length := by rw [place_last (by simp)]; simp
    have hget : (acc ++ [PyData.str o])[acc.length]? = some (PyData.str o) := by simp
    have step : (do let vs ← bindTg (.nm 4) d.dat [.v A, .v (spD sp), .v F, .c 0, x4]; evS ⟨P.consts, evC P (n + 3)⟩ 0 (.app 3 (.call 6 [] (.cons (.var 4) (.cons (.var 1) (.cons (.o2 .idx (.pk 3) (.o1 .neg (.lit (.int 1)))) .nil))))) vs [acc ++ [PyData.str o]]) = .ok (.nx [.v A, .v (spD sp), .v F, .c 0, .v d.dat] [acc ++ [PyData.str o] ++ [PyData.str (ownA sp o d)]]) := by
      simp only [bindTg, R.ok_bind, List.set, evS, evE, getV, getC, List.getElem?_cons_succ, List.getElem?_cons_zero, R.ofO_some, op_neg, op_idx_l, hpl, hget, cellsAt, List.map_nil, ow, lends, owned, hasList, R.chk, Bool.not_false, Bool.or_true, List.all_nil, Bool.and_self, if_true, putCells, decide_eq_true hlen, Bool.not_true, Bool.or_false]
    rw [List.map_cons, forLoop]
    rw [step]
    simp only [R.ok_bind]
    rw [e]
    simp [ownsFrom]
theorem owners_ok {P : Prog} (C : C18 P) (hp : P.defs 1 = some ⟨0, 2, 4, b_keeps⟩) (hq : P.defs 2 = some ⟨0, 2, 3, b_is_in⟩) (hr : P.defs 6 = some ⟨0, 3, 3, b_owner_after⟩) (ht : P.defs 7 = some ⟨0, 3, 5, b_owners_along⟩) {n : Nat} (sp : List Str) (o : Str) (h : List Deed) (hl : h.length < 900) :
    evC P (n + 4) 7 [hisD h, spD sp, .str o] [] = .ok (.tuple ((o :: ownsFrom sp o h).map .str), []) := by
  obtain ⟨y4, e⟩ := owners_loop C hp hq hr (n := n) sp (hisD h) (.str o) h [] o .un (by simp; omega)
  refine evC_ok ht ⟨rfl, rfl⟩ (r := .rt (.tuple ((o :: ownsFrom sp o h).map .str)) [(o :: ownsFrom sp o h).map .str]) ?_ rfl
  show evS ⟨P.consts, evC P (n + 3)⟩ 0 b_owners_along [.v (hisD h), .v (spD sp), .v (.str o), .un, .un] [] = _
  rw [b_owners_along, evS]
  have s1 : evS ⟨P.consts, evC P (n + 3)⟩ 0 (.cel 3 (.lst (.cons (.var 2) .nil))) [.v (hisD h), .v (spD sp), .v (.str o), .un, .un] [] = .ok (.nx [.v (hisD h), .v (spD sp), .v (.str o), .c 0, .un] [[.str o]]) := rfl
  rw [s1]
  simp only [R.ok_bind]
  rw [evS]
  have s2 : evS ⟨P.consts, evC P (n + 3)⟩ 0 (.fors (.nm 4) (.var 0) (.app 3 (.call 6 [] (.cons (.var 4) (.cons (.var 1) (.cons (.o2 .idx (.pk 3) (.o1 .neg (.lit (.int 1)))) .nil)))))) [.v (hisD h), .v (spD sp), .v (.str o), .c 0, .un] [[.str o]] = .ok (.nx [.v (hisD h), .v (spD sp), .v (.str o), .c 0, y4] [(o :: ownsFrom sp o h).map .str]) := by
    rw [evS]
    exact e
  rw [s2]
  rfl
end LP
set_option autoImplicit false
set_option linter.all false
set_option maxRecDepth 100000
set_option maxHeartbeats 1000000
namespace LP
open PySem LP.T
/-- does a way's deed reach the spot on its side -/
def hitB (sp : List Str) (one : Bool) : Deed → Bool
  | .way c d => inB sp (if one then c else d)
  | .fin c d => inB sp (if one then c else d)
  | _ => false
def sideI (one : Bool) : Int := if one then 1 else 2
theorem hit_ok {P : Prog} (C : C18 P) (hp : P.defs 1 = some ⟨0, 2, 4, b_keeps⟩) (hq : P.defs 2 = some ⟨0, 2, 3, b_is_in⟩) {n : Nat} (sp : List Str) (one : Bool) (A : D) (d : Deed) :
    compF ⟨P.consts, evC P (n + 2)⟩ (.nm 3) (.lit (.bool true)) (.and (.o2 .isin (.o2 .idx (.var 3) (.lit (.int 0))) (.tup (.cons (.gl 9) (.cons (.gl 8) .nil)))) (.call 2 [] (.cons (.var 1) (.cons (.o2 .idx (.var 3) (.var 2)) .nil)))) [.v A, .v (spD sp), .v (.int (sideI one)), .un] d.dat [] = .ok (some (.bool (hitB sp one d)), []) := by
  have ii := fun cu => isin_ok hp hq (n := n) sp cu
  cases d <;> cases one <;> simp [compF, bindTg, Deed.dat, hitB, sideI, evE, getV, op_idx_t, op_isin_t, tru_b, eqv_ss, place, C.c8, C.c9, R.chk, cellsAt, putCells, ii, lends, owned, hasList]
theorem hits_ok {P : Prog} (C : C18 P) (hp : P.defs 1 = some ⟨0, 2, 4, b_keeps⟩) (hq : P.defs 2 = some ⟨0, 2, 3, b_is_in⟩) (hr : P.defs 10 = some ⟨0, 3, 4, b_hits⟩) {n : Nat} (sp : List Str) (one : Bool) (h : List Deed) :
    evC P (n + 3) 10 [hisD h, spD sp, .int (sideI one)] [] = .ok (.list (h.map fun d => .bool (hitB sp one d)), []) := by
  refine evC_ok hr ⟨rfl, rfl⟩ (r := .rt (.list (h.map fun d => .bool (hitB sp one d))) []) ?_ rfl
  show evS ⟨P.consts, evC P (n + 2)⟩ 0 b_hits [.v (hisD h), .v (spD sp), .v (.int (sideI one)), .un] [] = _
  have key : ∀ l : List Deed, compLoop (compF ⟨P.consts, evC P (n + 2)⟩ (.nm 3) (.lit (.bool true)) (.and (.o2 .isin (.o2 .idx (.var 3) (.lit (.int 0))) (.tup (.cons (.gl 9) (.cons (.gl 8) .nil)))) (.call 2 [] (.cons (.var 1) (.cons (.o2 .idx (.var 3) (.var 2)) .nil)))) [.v (hisD h), .v (spD sp), .v (.int (sideI one)), .un]) (l.map Deed.dat) [] = .ok (l.map fun d => .bool (hitB sp one d), []) := fun l => by
    induction l with
    | nil => rfl
    | cons d l ih => simp only [List.map_cons, compLoop, hit_ok C hp hq, ih, R.ok_bind]
  have c := comp_ok (G := ⟨P.consts, evC P (n + 2)⟩) (src := .var 0) (vs := [.v (hisD h), .v (spD sp), .v (.int (sideI one)), .un]) (cs := []) rfl rfl rfl (key h)
  simp only [b_hits, evS]
  rw [c]
  rfl
end LP
set_option autoImplicit false
set_option linter.all false
set_option maxRecDepth 100000
set_option maxHeartbeats 1000000
namespace LP
open PySem LP.T
def isWay : Deed → Bool
  | .way _ _ => true
  | _ => false
/-- the truths along a history -/
def trF (s1 s2 : List Str) : Bool → Str → Str → List Deed → List Bool
  | _, _, _, [] => []
  | prev, o1, o2, d :: r =>
    ((if hitB s1 true d && hitB s2 false d then isWay d else prev) && !decide (ownA s1 o1 d = ownA s2 o2 d)) ::
      trF s1 s2 ((if hitB s1 true d && hitB s2 false d then isWay d else prev) && !decide (ownA s1 o1 d = ownA s2 o2 d)) (ownA s1 o1 d) (ownA s2 o2 d) r
theorem owns_at (sp : List Str) : ∀ (p : List Deed) (o : Str) (d : Deed) (r : List Deed), (o :: ownsFrom sp o (p ++ d :: r))[p.length + 1]? = some (ownA sp (p.foldl (ownA sp) o) d)
  | [], o, d, r => by simp [ownsFrom]
  | e :: p, o, d, r => by
    have := owns_at sp p (ownA sp o e) d r
    simpa [ownsFrom] using this
theorem first_way {P : Prog} (C : C18 P) (d : Deed) : ∃ w, (∃ t, d.dat = .tuple (.str w :: t)) ∧ decide (w = ("way" : Str)) = isWay d := by
  cases d
  · exact ⟨_, ⟨_, rfl⟩, by simp [isWay]⟩
  · exact ⟨_, ⟨_, rfl⟩, by simp [isWay]⟩
  · exact ⟨_, ⟨_, rfl⟩, by simp [isWay]⟩
  · exact ⟨_, ⟨_, rfl⟩, by simp [isWay]⟩
  · exact ⟨_, ⟨_, rfl⟩, by simp [isWay]⟩
  · exact ⟨_, ⟨_, rfl⟩, by simp [isWay]⟩
abbrev tBody : S := (.seq (.asg 8 (.o2 .idx (.pk 5) (.o1 .neg (.lit (.int 1))))) (.seq (.ifs (.and (.o2 .idx (.var 1) (.var 6)) (.o2 .idx (.var 3) (.var 6))) (.asg 8 (.o2 .eq (.o2 .idx (.var 7) (.lit (.int 0))) (.gl 9))) .nop) (.app 5 (.and (.var 8) (.o2 .ne (.o2 .idx (.var 2) (.o2 .add (.var 6) (.lit (.int 1)))) (.o2 .idx (.var 4) (.o2 .add (.var 6) (.lit (.int 1)))))))))
theorem turn_step {P : Prog} (C : C18 P) {cl : Nat → List D → Cs → R (D × Cs)} {A : D} {x6 x7 x8 : Sl} {S G : List Bool} {M T : List Str} {i : Nat} {d : Deed} {acc : List D} {prev s g : Bool} {m t : Str} (hS : S[i]? = some s) (hGo : G[i]? = some g) (hM : M[i + 1]? = some m) (hT : T[i + 1]? = some t) (hl : acc.length < 1000) (hl2 : i + 1 < 1000) :
    ∃ y6 y7 y8, (do let vs ← bindTg (.tp [6, 7]) (.tuple [.int (i : Int), d.dat]) [.v A, .v (.list (S.map .bool)), .v (.tuple (M.map .str)), .v (.list (G.map .bool)), .v (.tuple (T.map .str)), .c 0, x6, x7, x8]; evS ⟨P.consts, cl⟩ 0 tBody vs [acc ++ [PyData.bool prev]])
      = .ok (.nx [.v A, .v (.list (S.map .bool)), .v (.tuple (M.map .str)), .v (.list (G.map .bool)), .v (.tuple (T.map .str)), .c 0, y6, y7, y8] [acc ++ [PyData.bool prev] ++ [PyData.bool ((if s && g then isWay d else prev) && !decide (m = t))]]) := by
  obtain ⟨w, ⟨tl, ed⟩, hw⟩ := first_way C d
  have hlen : (acc ++ [PyData.bool prev]).length < sz := by simp [sz]; omega
  have hpl : place (acc ++ [PyData.bool prev]).length (-1) = some acc.length := by rw [place_last (by simp)]; simp
  have hget : (acc ++ [PyData.bool prev])[acc.length]? = some (PyData.bool prev) := by simp
  have pS : place (S.map PyData.bool).length (i : Int) = some i := by
    have := (List.getElem?_eq_some_iff.mp hS).1
    rw [place_ok (by omega) (by rw [List.length_map]; omega)]; simp
  have pG : place (G.map PyData.bool).length (i : Int) = some i := by
    have := (List.getElem?_eq_some_iff.mp hGo).1
    rw [place_ok (by omega) (by rw [List.length_map]; omega)]; simp
  have pM : place (M.map PyData.str).length ((i : Int) + 1) = some (i + 1) := by
    have := (List.getElem?_eq_some_iff.mp hM).1
    rw [place_ok (by omega) (by rw [List.length_map]; omega)]; congr 1
  have pT : place (T.map PyData.str).length ((i : Int) + 1) = some (i + 1) := by
    have := (List.getElem?_eq_some_iff.mp hT).1
    rw [place_ok (by omega) (by rw [List.length_map]; omega)]; congr 1
  have gS : (S.map PyData.bool)[i]? = some (.bool s) := by rw [List.getElem?_map, hS]; rfl
  have gG : (G.map PyData.bool)[i]? = some (.bool g) := by rw [List.getElem?_map, hGo]; rfl
  have gM : (M.map PyData.str)[i + 1]? = some (.str m) := by rw [List.getElem?_map, hM]; rfl
  have gT : (T.map PyData.str)[i + 1]? = some (.str t) := by rw [List.getElem?_map, hT]; rfl
  have p0 : place (PyData.str w :: tl).length 0 = some 0 := place_ok (by decide) (by rw [List.length_cons]; omega)
  refine ⟨.v (.int (i : Int)), .v d.dat, .v (.bool (if s && g then isWay d else prev)), ?_⟩
  rw [ed]
  have ch : R.chk (decide ((acc ++ [PyData.bool prev]).length < sz)) = .ok () := by rw [decide_eq_true hlen]; rfl
  cases s <;> cases g <;> cases prev <;> cases hww : isWay d <;> rw [hww] at hw <;>
    simp only [tBody, bindTg, itemsOf, bindAll, R.ok_bind, List.set, evS, evE, getV, getC, List.getElem?_cons_succ, List.getElem?_cons_zero, R.ofO_some, op_neg, op_idx_l, op_idx_t, hpl, hget, pS, pG, pM, pT, gS, gG, gM, gT, p0, tru_b, if_true, Bool.false_eq_true, if_false, op_add_ii, op_ne_ss, op_eq_ss, C.c9, hw, ch, Bool.and_true, Bool.true_and, Bool.and_false, Bool.false_and]
end LP
set_option autoImplicit false
set_option linter.all false
set_option maxRecDepth 100000
set_option maxHeartbeats 1000000
namespace LP
open PySem LP.T
theorem turn_loop {P : Prog} (C : C18 P) {cl : Nat → List D → Cs → R (D × Cs)} (s1 s2 : List Str) (o1 o2 : Str) (h : List Deed) (A : D) (hh : h.length < 900) : ∀ (r p : List Deed) (acc : List D) (prev : Bool) (x6 x7 x8 : Sl), p ++ r = h → acc.length = p.length →
    ∃ y6 y7 y8, forLoop (fun x vs cs => do let vs ← bindTg (.tp [6, 7]) x vs; evS ⟨P.consts, cl⟩ 0 tBody vs cs) (((r.map Deed.dat).zipIdx p.length).map fun q => .tuple [.int (q.2 : Int), q.1])
        [.v A, .v (.list ((h.map (hitB s1 true)).map .bool)), .v (.tuple ((o1 :: ownsFrom s1 o1 h).map .str)), .v (.list ((h.map (hitB s2 false)).map .bool)), .v (.tuple ((o2 :: ownsFrom s2 o2 h).map .str)), .c 0, x6, x7, x8] [acc ++ [PyData.bool prev]]
      = .ok (.nx [.v A, .v (.list ((h.map (hitB s1 true)).map .bool)), .v (.tuple ((o1 :: ownsFrom s1 o1 h).map .str)), .v (.list ((h.map (hitB s2 false)).map .bool)), .v (.tuple ((o2 :: ownsFrom s2 o2 h).map .str)), .c 0, y6, y7, y8]
          [acc ++ [PyData.bool prev] ++ (trF s1 s2 prev (p.foldl (ownA s1) o1) (p.foldl (ownA s2) o2) r).map PyData.bool])
  | [], p, acc, prev, x6, x7, x8, _, _ => ⟨x6, x7, x8, by simp [forLoop, trF]⟩
  | d :: r, p, acc, prev, x6, x7, x8, e, el => by
    have hi : p.length < h.length := by rw [← e]; simp
    have gd : h[p.length]? = some d := by rw [← e]; simp
    obtain ⟨z6, z7, z8, st⟩ := turn_step C (cl := cl) (A := A) (x6 := x6) (x7 := x7) (x8 := x8) (S := h.map (hitB s1 true)) (G := h.map (hitB s2 false)) (M := o1 :: ownsFrom s1 o1 h) (T := o2 :: ownsFrom s2 o2 h) (i := p.length) (d := d) (acc := acc) (prev := prev)
      (by rw [List.getElem?_map, gd]; rfl) (by rw [List.getElem?_map, gd]; rfl) (by rw [← e]; exact owns_at s1 p o1 d r) (by rw [← e]; exact owns_at s2 p o2 d r) (by omega) (by omega)
    obtain ⟨y6, y7, y8, ih⟩ := turn_loop C s1 s2 o1 o2 h A hh r (p ++ [d]) (acc ++ [PyData.bool prev]) ((if hitB s1 true d && hitB s2 false d then isWay d else prev) && !decide (ownA s1 (p.foldl (ownA s1) o1) d = ownA s2 (p.foldl (ownA s2) o2) d)) z6 z7 z8 (by simpa using e) (by simp [el])
    refine ⟨y6, y7, y8, ?_⟩
    rw [List.map_cons, List.zipIdx_cons, List.map_cons, forLoop]
    simp only
    rw [st]
    simp only [R.ok_bind]
    rw [List.length_append, List.length_singleton] at ih
    rw [ih]
    simp only [trF, List.map_cons, List.foldl_append, List.foldl_cons, List.foldl_nil, List.append_assoc, List.singleton_append, List.cons_append, List.nil_append]
theorem turned_ok {P : Prog} (C : C18 P) (hr : P.defs 11 = some ⟨0, 5, 9, b_turned⟩) {n : Nat} (s1 s2 : List Str) (o1 o2 : Str) (h : List Deed) (hh : h.length < 900) :
    evC P (n + 1) 11 [hisD h, .list ((h.map (hitB s1 true)).map .bool), .tuple ((o1 :: ownsFrom s1 o1 h).map .str), .list ((h.map (hitB s2 false)).map .bool), .tuple ((o2 :: ownsFrom s2 o2 h).map .str)] [] = .ok (.tuple ((false :: trF s1 s2 false o1 o2 h).map .bool), []) := by
  obtain ⟨y6, y7, y8, e⟩ := turn_loop C (cl := evC P n) s1 s2 o1 o2 h (hisD h) hh h [] [] false .un .un .un rfl rfl
  refine evC_ok hr ⟨rfl, rfl⟩ (r := .rt (.tuple ((false :: trF s1 s2 false o1 o2 h).map .bool)) [(false :: trF s1 s2 false o1 o2 h).map .bool]) ?_ rfl
  show evS ⟨P.consts, evC P n⟩ 0 b_turned [.v (hisD h), .v (.list ((h.map (hitB s1 true)).map .bool)), .v (.tuple ((o1 :: ownsFrom s1 o1 h).map .str)), .v (.list ((h.map (hitB s2 false)).map .bool)), .v (.tuple ((o2 :: ownsFrom s2 o2 h).map .str)), .un, .un, .un, .un] [] = _
  rw [b_turned, evS]
  have s1' : ∀ V : Vs, V = [.v (hisD h), .v (.list ((h.map (hitB s1 true)).map .bool)), .v (.tuple ((o1 :: ownsFrom s1 o1 h).map .str)), .v (.list ((h.map (hitB s2 false)).map .bool)), .v (.tuple ((o2 :: ownsFrom s2 o2 h).map .str)), .un, .un, .un, .un] → evS ⟨P.consts, evC P n⟩ 0 (.cel 5 (.lst (.cons (.lit (.bool false)) .nil))) V [] = .ok (.nx (V.set 5 (.c 0)) [[.bool false]]) := fun V hV => by subst hV; rfl
  rw [s1' _ rfl]
  simp only [R.ok_bind]
  rw [evS]
  have s2' : evS ⟨P.consts, evC P n⟩ 0 (.fors (.tp [6, 7]) (.enum (.var 0)) tBody) [.v (hisD h), .v (.list ((h.map (hitB s1 true)).map .bool)), .v (.tuple ((o1 :: ownsFrom s1 o1 h).map .str)), .v (.list ((h.map (hitB s2 false)).map .bool)), .v (.tuple ((o2 :: ownsFrom s2 o2 h).map .str)), .c 0, .un, .un, .un] [[.bool false]]
      = .ok (.nx [.v (hisD h), .v (.list ((h.map (hitB s1 true)).map .bool)), .v (.tuple ((o1 :: ownsFrom s1 o1 h).map .str)), .v (.list ((h.map (hitB s2 false)).map .bool)), .v (.tuple ((o2 :: ownsFrom s2 o2 h).map .str)), .c 0, y6, y7, y8] [(false :: trF s1 s2 false o1 o2 h).map .bool]) := by
    rw [evS]
    exact e
  show (do match ← evS ⟨P.consts, evC P n⟩ 0 (.fors (.tp [6, 7]) (.enum (.var 0)) tBody) _ [[.bool false]] with | .nx vs cs => evS ⟨P.consts, evC P n⟩ 0 (.ret (.o1 .tup (.pk 5))) vs cs | f => R.ok f) = _
  rw [show (List.set [Sl.v (hisD h), .v (.list ((h.map (hitB s1 true)).map .bool)), .v (.tuple ((o1 :: ownsFrom s1 o1 h).map .str)), .v (.list ((h.map (hitB s2 false)).map .bool)), .v (.tuple ((o2 :: ownsFrom s2 o2 h).map .str)), .un, .un, .un, .un] 5 (.c 0)) = [.v (hisD h), .v (.list ((h.map (hitB s1 true)).map .bool)), .v (.tuple ((o1 :: ownsFrom s1 o1 h).map .str)), .v (.list ((h.map (hitB s2 false)).map .bool)), .v (.tuple ((o2 :: ownsFrom s2 o2 h).map .str)), .c 0, .un, .un, .un] from rfl, s2']
  rfl
end LP
set_option autoImplicit false
set_option linter.all false
set_option maxRecDepth 100000
set_option maxHeartbeats 1000000
namespace LP
open PySem LP.T
mutual
theorem tupD_id : ∀ d : D, hasList d = false → tupD d = d
  | .none, _ => rfl
  | .bool _, _ => rfl
  | .int _, _ => rfl
  | .str _, _ => rfl
  | .list _, h => by simp [hasList] at h
  | .tuple xs, h => by rw [tupD, tupDs_id xs (by simpa only [hasList] using h)]
  | .dict _, _ => rfl
theorem tupDs_id : ∀ xs : List D, hasListAll xs = false → tupDs xs = xs
  | [], _ => rfl
  | x :: xs, h => by
    simp only [hasListAll, Bool.or_eq_false_iff] at h
    rw [tupDs, tupD_id x h.1, tupDs_id xs h.2]
end
theorem way_ok {P : Prog} (C : C18 P) (h0 : P.defs 0 = some ⟨0, 1, 2, b_tupled⟩) (hp : P.defs 1 = some ⟨0, 2, 4, b_keeps⟩) (hq : P.defs 2 = some ⟨0, 2, 3, b_is_in⟩) (hr : P.defs 6 = some ⟨0, 3, 3, b_owner_after⟩) (ht : P.defs 7 = some ⟨0, 3, 5, b_owners_along⟩) (hu : P.defs 10 = some ⟨0, 3, 4, b_hits⟩) (hv : P.defs 11 = some ⟨0, 5, 9, b_turned⟩) (hw : P.defs 12 = some ⟨0, 5, 10, b_way_along⟩)
    {n : Nat} (s1 s2 : List Str) (o1 o2 : Str) (h : List Deed) (hh : h.length < 900) {X Y Z : D} (eX : tupD X = hisD h) (eY : tupD Y = spD s1) (eZ : tupD Z = spD s2) (dX : X.depth < n + 4) (dY : Y.depth < n + 4) (dZ : Z.depth < n + 4) :
    evC P (n + 5) 12 [X, Y, .str o1, Z, .str o2] [] = .ok (.tuple ((false :: trF s1 s2 false o1 o2 h).map .bool), []) := by
  have tX := tupled_ok h0 (n + 4) X dX
  have tY := tupled_ok h0 (n + 4) Y dY
  have tZ := tupled_ok h0 (n + 4) Z dZ
  rw [eX] at tX
  rw [eY] at tY
  rw [eZ] at tZ
  have w1 := owners_ok C hp hq hr ht (n := n) s1 o1 h hh
  have w2 := owners_ok C hp hq hr ht (n := n) s2 o2 h hh
  have k1 := hits_ok C hp hq hu (n := n + 1) s1 true h
  have k2 := hits_ok C hp hq hu (n := n + 1) s2 false h
  have tt := turned_ok C hv (n := n + 3) s1 s2 o1 o2 h hh
  simp only [List.map_map] at tt
  refine evC_ok hw ⟨rfl, rfl⟩ (r := .rt (.tuple ((false :: trF s1 s2 false o1 o2 h).map .bool)) []) ?_ rfl
  show evS ⟨P.consts, evC P (n + 4)⟩ 0 b_way_along [.v X, .v Y, .v (.str o1), .v Z, .v (.str o2), .un, .un, .un, .un, .un] [] = _
  have k1' : evC P (n + 4) 10 [hisD h, spD s1, .int 1] [] = .ok (.list (h.map (PyData.bool ∘ hitB s1 true)), []) := k1
  have k2' : evC P (n + 4) 10 [hisD h, spD s2, .int 2] [] = .ok (.list (h.map (PyData.bool ∘ hitB s2 false)), []) := k2
  simp only [b_way_along, evS, evE, getV, List.getElem?_cons_succ, List.getElem?_cons_zero, R.ok_bind, cellsAt, List.map_nil, tX, tY, tZ, lends, owned, R.chk, Bool.not_true, Bool.or_false, Bool.not_false, Bool.true_or, List.all_nil, Bool.and_self, Bool.and_true, if_true, putCells, bindAll, ownAll, List.set, w1, w2, k1', k2', tt]
end LP
set_option autoImplicit false
set_option linter.all false
set_option maxRecDepth 100000
set_option maxHeartbeats 1000000
namespace LP
open PySem LP.T
theorem law_in_ok {P : Prog} (hp : P.defs 21 = some ⟨0, 2, 5, b_law_in⟩) {n : Nat} (sp : List Str) (cu : Cut) : evC P (n + 1) 21 [spD sp, cuD cu] [] = .ok (.bool (inB sp cu), []) := by
  have cmp : ∀ (cl : List (Str × Bool)) (B : D) (x2 x3 x4 : Sl), noCel (.tp [3, 4]) [.v (spD sp), .v B, x2, x3, x4] = true → compLoop (compF ⟨P.consts, evC P n⟩ (.tp [3, 4]) (.o2 .ne (.o2 .isin (.var 3) (.var 0)) (.var 4)) (.var 3) [.v (spD sp), .v B, x2, x3, x4]) (cl.map fun p => .tuple [.str p.1, .bool p.2]) [] = .ok ((cl.filter fun p => !(sp.contains p.1 == p.2)).map fun p => .str p.1, []) := fun cl B x2 x3 x4 _ => by
    induction cl with
    | nil => rfl
    | cons p cl ih =>
      have e : compF ⟨P.consts, evC P n⟩ (.tp [3, 4]) (.o2 .ne (.o2 .isin (.var 3) (.var 0)) (.var 4)) (.var 3) [.v (spD sp), .v B, x2, x3, x4] (.tuple [.str p.1, .bool p.2]) [] = .ok (if sp.contains p.1 == p.2 then none else some (.str p.1), []) := by
        have ne : op2 .ne (.bool (sp.contains p.1)) (.bool p.2) = .ok (.bool (!(sp.contains p.1 == p.2))) := by simp only [op2, PyData.depth, eqv_bb]; rfl
        simp only [compF, bindTg, itemsOf, bindAll, R.ok_bind, List.set, evE, getV, List.getElem?_cons_succ, List.getElem?_cons_zero, isin_str, ne, tru_b]
        cases (sp.contains p.1 == p.2) <;> rfl
      simp only [List.map_cons, compLoop, e, ih, R.ok_bind, List.filter_cons]
      cases (sp.contains p.1 == p.2) <;> rfl
  have emp : ∀ cl : List (Str × Bool), op2 .eq (.list ((cl.filter fun p => !(sp.contains p.1 == p.2)).map fun p => PyData.str p.1)) (.list []) = .ok (.bool (keepsB sp cl)) := fun cl => by
    have hk : keepsB sp cl = (cl.filter fun p => !(sp.contains p.1 == p.2)).isEmpty := by
      unfold keepsB
      induction cl with
      | nil => rfl
      | cons p cl ih =>
        rw [List.all_cons, List.filter_cons, ih]
        cases (sp.contains p.1 == p.2) <;> rfl
    rw [hk]
    cases hf : (cl.filter fun p => !(sp.contains p.1 == p.2)) with
    | nil => rfl
    | cons p r =>
      simp only [op2, List.map_cons, PyData.depth, PyData.depthAll, PyData.eqv, PyData.eqvAll, List.isEmpty_cons]
      rw [decide_eq_true (by simp only [dep]; omega)]
      rfl
  have loop : ∀ (l : Cut) (x2 : Sl), isCel (some x2) = false → ∃ y2, forLoop (fun x vs cs => do let vs ← bindTg (.nm 2) x vs; evS ⟨P.consts, evC P n⟩ 0 (.ifs (.o2 .eq (.comp (.tp [3, 4]) (.var 2) (.o2 .ne (.o2 .isin (.var 3) (.var 0)) (.var 4)) (.var 3)) (.lst .nil)) (.ret (.lit (.bool true))) .nop) vs cs) (l.map clD) [.v (spD sp), .v (cuD cu), x2, .un, .un] []
      = .ok (if inB sp l then .rt (.bool true) [] else .nx [.v (spD sp), .v (cuD cu), y2, .un, .un] []) := fun l => by
    induction l with
    | nil => intro x2 _; exact ⟨x2, rfl⟩
    | cons c l ih =>
      intro x2 _
      obtain ⟨y2, e⟩ := ih (.v (clD c)) rfl
      refine ⟨y2, ?_⟩
      have cc := comp_ok (G := ⟨P.consts, evC P n⟩) (src := .var 2) (vs := [.v (spD sp), .v (cuD cu), .v (clD c), .un, .un]) (cs := []) rfl rfl rfl (cmp c (cuD cu) (.v (clD c)) .un .un rfl)
      have step : evS ⟨P.consts, evC P n⟩ 0 (.ifs (.o2 .eq (.comp (.tp [3, 4]) (.var 2) (.o2 .ne (.o2 .isin (.var 3) (.var 0)) (.var 4)) (.var 3)) (.lst .nil)) (.ret (.lit (.bool true))) .nop) [.v (spD sp), .v (cuD cu), .v (clD c), .un, .un] [] = .ok (if keepsB sp c then .rt (.bool true) [] else .nx [.v (spD sp), .v (cuD cu), .v (clD c), .un, .un] []) := by
        rw [evS, evE, cc]
        simp only [R.ok_bind, evE, emp, tru_b]
        cases keepsB sp c <;> rfl
      have step2 : (do let vs ← bindTg (.nm 2) (clD c) [.v (spD sp), .v (cuD cu), x2, .un, .un]; evS ⟨P.consts, evC P n⟩ 0 (.ifs (.o2 .eq (.comp (.tp [3, 4]) (.var 2) (.o2 .ne (.o2 .isin (.var 3) (.var 0)) (.var 4)) (.var 3)) (.lst .nil)) (.ret (.lit (.bool true))) .nop) vs []) = .ok (if keepsB sp c then .rt (.bool true) [] else .nx [.v (spD sp), .v (cuD cu), .v (clD c), .un, .un] []) := by
        simp only [bindTg, R.ok_bind, List.set]
        exact step
      rw [List.map_cons, forLoop]
      rw [step2]
      cases hk : keepsB sp c with
      | true => simp only [R.ok_bind, if_true, inB, List.any_cons, hk, Bool.true_or]
      | false =>
        simp only [R.ok_bind, Bool.false_eq_true, if_false]
        have hi : inB sp (c :: l) = inB sp l := by simp only [inB, List.any_cons, hk, Bool.false_or]
        rw [e, hi]
  obtain ⟨y2, e⟩ := loop cu .un rfl
  have body : evS ⟨P.consts, evC P n⟩ 0 b_law_in [.v (spD sp), .v (cuD cu), .un, .un, .un] [] = .ok (.rt (.bool (inB sp cu)) []) := by
    rw [b_law_in, evS, evS]
    simp only [evE, getV, List.getElem?_cons_succ, List.getElem?_cons_zero, R.ok_bind]
    show (do match ← forLoop _ (cu.map clD) _ [] with | .nx vs cs => evS ⟨P.consts, evC P n⟩ 0 (.ret (.lit (.bool false))) vs cs | f => R.ok f) = _
    rw [e]
    cases inB sp cu <;> rfl
  exact evC_ok hp ⟨rfl, rfl⟩ (r := .rt (.bool (inB sp cu)) []) body rfl
end LP
set_option autoImplicit false
set_option linter.all false
set_option maxRecDepth 100000
set_option maxHeartbeats 1000000
namespace LP
open PySem LP.T
theorem law_owner_ok {P : Prog} (hq : P.defs 21 = some ⟨0, 2, 5, b_law_in⟩) (hr : P.defs 29 = some ⟨0, 3, 3, b_law_owner⟩) {n : Nat} (sp : List Str) (o : Str) (d : Deed) :
    evC P (n + 2) 29 [d.dat, spD sp, .str o] [] = .ok (.str (ownA sp o d), []) := by
  refine evC_ok hr ⟨rfl, rfl⟩ (r := .rt (.str (ownA sp o d)) []) ?_ rfl
  show evS ⟨P.consts, evC P (n + 1)⟩ 0 b_law_owner [.v d.dat, .v (spD sp), .v (.str o)] [] = _
  have ii := fun cu => law_in_ok hq (n := n) sp cu
  cases d with
  | give x y c =>
    by_cases hc : inB sp c = true
    · by_cases ho : o = x
      · simp [b_law_owner, Deed.dat, ownA, evS, evE, getV, op_idx_t, op_eq_ss, op_notin_t, op_neg, op_nt, tru_b, eqv_ss, place, R.chk, cellsAt, putCells, ii, lends, owned, hasList, hc, ho]
      · simp [b_law_owner, Deed.dat, ownA, evS, evE, getV, op_idx_t, op_eq_ss, op_notin_t, op_neg, op_nt, tru_b, eqv_ss, place, R.chk, cellsAt, putCells, ii, lends, owned, hasList, hc, ho]
    · simp [b_law_owner, Deed.dat, ownA, evS, evE, getV, op_idx_t, op_eq_ss, op_notin_t, op_neg, op_nt, tru_b, eqv_ss, place, R.chk, cellsAt, putCells, ii, lends, owned, hasList, hc]
  | swap x y c =>
    by_cases hc : inB sp c = true
    · by_cases ho : o = x
      · simp [b_law_owner, Deed.dat, ownA, evS, evE, getV, op_idx_t, op_eq_ss, op_notin_t, op_neg, op_nt, tru_b, eqv_ss, place, R.chk, cellsAt, putCells, ii, lends, owned, hasList, hc, ho]
      · by_cases ho2 : o = y
        · subst ho2
          simp [b_law_owner, Deed.dat, ownA, evS, evE, getV, op_idx_t, op_eq_ss, op_notin_t, op_neg, op_nt, tru_b, eqv_ss, place, R.chk, cellsAt, putCells, ii, lends, owned, hasList, hc, ho]
        · simp [b_law_owner, Deed.dat, ownA, evS, evE, getV, op_idx_t, op_eq_ss, op_notin_t, op_neg, op_nt, tru_b, eqv_ss, place, R.chk, cellsAt, putCells, ii, lends, owned, hasList, hc, ho, ho2]
    · simp [b_law_owner, Deed.dat, ownA, evS, evE, getV, op_idx_t, op_eq_ss, op_notin_t, op_neg, op_nt, tru_b, eqv_ss, place, R.chk, cellsAt, putCells, ii, lends, owned, hasList, hc]
  | vest y c =>
    by_cases hc : inB sp c = true
    · simp [b_law_owner, Deed.dat, ownA, evS, evE, getV, op_idx_t, op_eq_ss, op_notin_t, op_neg, op_nt, tru_b, eqv_ss, place, R.chk, cellsAt, putCells, ii, lends, owned, hasList, hc]
    · simp [b_law_owner, Deed.dat, ownA, evS, evE, getV, op_idx_t, op_eq_ss, op_notin_t, op_neg, op_nt, tru_b, eqv_ss, place, R.chk, cellsAt, putCells, ii, lends, owned, hasList, hc]
  | way c d => simp [b_law_owner, Deed.dat, ownA, evS, evE, getV, op_idx_t, op_eq_ss, op_notin_t, op_neg, op_nt, tru_b, eqv_ss, place, R.chk, cellsAt, putCells, ii, lends, owned, hasList]
  | fin c d => simp [b_law_owner, Deed.dat, ownA, evS, evE, getV, op_idx_t, op_eq_ss, op_notin_t, op_neg, op_nt, tru_b, eqv_ss, place, R.chk, cellsAt, putCells, ii, lends, owned, hasList]
  | charge x c => simp [b_law_owner, Deed.dat, ownA, evS, evE, getV, op_idx_t, op_eq_ss, op_notin_t, op_neg, op_nt, tru_b, eqv_ss, place, R.chk, cellsAt, putCells, ii, lends, owned, hasList]
end LP
set_option autoImplicit false
set_option linter.all false
set_option maxRecDepth 100000
set_option maxHeartbeats 1000000
namespace LP
open PySem LP.T
theorem law_owners_loop {P : Prog} (hq : P.defs 21 = some ⟨0, 2, 5, b_law_in⟩) (hr : P.defs 29 = some ⟨0, 3, 3, b_law_owner⟩) {n : Nat} (sp : List Str) (A F : D) : ∀ (h : List Deed) (acc : List D) (o : Str) (x4 : Sl), acc.length + h.length < 1000 →
    ∃ y4, forLoop (fun x vs cs => do let vs ← bindTg (.nm 4) x vs; evS ⟨P.consts, evC P (n + 2)⟩ 0 (.app 3 (.call 29 [] (.cons (.var 4) (.cons (.var 1) (.cons (.o2 .idx (.pk 3) (.o1 .neg (.lit (.int 1)))) .nil))))) vs cs) (h.map Deed.dat) [.v A, .v (spD sp), .v F, .c 0, x4] [acc ++ [PyData.str o]]
      = .ok (.nx [.v A, .v (spD sp), .v F, .c 0, y4] [acc ++ [PyData.str o] ++ (ownsFrom sp o h).map PyData.str])
  | [], acc, o, x4, _ => ⟨x4, by simp [forLoop, ownsFrom]⟩
  | d :: h, acc, o, x4, hl => by
    obtain ⟨y4, e⟩ := law_owners_loop hq hr sp A F h (acc ++ [.str o]) (ownA sp o d) (.v d.dat) (by simp at hl ⊢; omega)
    refine ⟨y4, ?_⟩
    have ow := law_owner_ok hq hr (n := n) sp o d
    have hlen : (acc ++ [PyData.str o]).length < sz := by simp [sz] at hl ⊢; omega
    have hpl : place (acc ++ [PyData.str o]).length (-1) = some acc.length := by rw [place_last (by simp)]; simp
    have hget : (acc ++ [PyData.str o])[acc.length]? = some (PyData.str o) := by simp
    have step : (do let vs ← bindTg (.nm 4) d.dat [.v A, .v (spD sp), .v F, .c 0, x4]; evS ⟨P.consts, evC P (n + 2)⟩ 0 (.app 3 (.call 29 [] (.cons (.var 4) (.cons (.var 1) (.cons (.o2 .idx (.pk 3) (.o1 .neg (.lit (.int 1)))) .nil))))) vs [acc ++ [PyData.str o]]) = .ok (.nx [.v A, .v (spD sp), .v F, .c 0, .v d.dat] [acc ++ [PyData.str o] ++ [PyData.str (ownA sp o d)]]) := by
      simp only [bindTg, R.ok_bind, List.set, evS, evE, getV, getC, List.getElem?_cons_succ, List.getElem?_cons_zero, R.ofO_some, op_neg, op_idx_l, hpl, hget, cellsAt, List.map_nil, ow, lends, owned, hasList, R.chk, Bool.not_false, Bool.or_true, List.all_nil, Bool.and_self, if_true, putCells, decide_eq_true hlen, Bool.not_true, Bool.or_false]
    rw [List.map_cons, forLoop]
    rw [step]
    simp only [R.ok_bind]
    rw [e]
    simp [ownsFrom]
theorem law_owners_ok {P : Prog} (hq : P.defs 21 = some ⟨0, 2, 5, b_law_in⟩) (hr : P.defs 29 = some ⟨0, 3, 3, b_law_owner⟩) (ht : P.defs 30 = some ⟨0, 3, 5, b_law_owners⟩) {n : Nat} (sp : List Str) (o : Str) (h : List Deed) (hl : h.length < 900) :
    evC P (n + 3) 30 [hisD h, spD sp, .str o] [] = .ok (.list ((o :: ownsFrom sp o h).map .str), []) := by
  obtain ⟨y4, e⟩ := law_owners_loop hq hr (n := n) sp (hisD h) (.str o) h [] o .un (by simp; omega)
  refine evC_ok ht ⟨rfl, rfl⟩ (r := .rt (.list ((o :: ownsFrom sp o h).map .str)) [(o :: ownsFrom sp o h).map .str]) ?_ rfl
  show evS ⟨P.consts, evC P (n + 2)⟩ 0 b_law_owners [.v (hisD h), .v (spD sp), .v (.str o), .un, .un] [] = _
  rw [b_law_owners, evS]
  have s1 : evS ⟨P.consts, evC P (n + 2)⟩ 0 (.cel 3 (.lst (.cons (.var 2) .nil))) [.v (hisD h), .v (spD sp), .v (.str o), .un, .un] [] = .ok (.nx [.v (hisD h), .v (spD sp), .v (.str o), .c 0, .un] [[.str o]]) := rfl
  rw [s1]
  simp only [R.ok_bind]
  rw [evS]
  have s2 : evS ⟨P.consts, evC P (n + 2)⟩ 0 (.fors (.nm 4) (.var 0) (.app 3 (.call 29 [] (.cons (.var 4) (.cons (.var 1) (.cons (.o2 .idx (.pk 3) (.o1 .neg (.lit (.int 1)))) .nil)))))) [.v (hisD h), .v (spD sp), .v (.str o), .c 0, .un] [[.str o]] = .ok (.nx [.v (hisD h), .v (spD sp), .v (.str o), .c 0, y4] [(o :: ownsFrom sp o h).map .str]) := by
    rw [evS]
    exact e
  rw [s2]
  rfl
theorem law_hit_ok {P : Prog} (hq : P.defs 21 = some ⟨0, 2, 5, b_law_in⟩) {n : Nat} (sp : List Str) (one : Bool) (A : D) (d : Deed) :
    compF ⟨P.consts, evC P (n + 1)⟩ (.nm 3) (.lit (.bool true)) (.and (.o2 .isin (.o2 .idx (.var 3) (.lit (.int 0))) (.tup (.cons (.lit (.str (Str.ofString "way"))) (.cons (.lit (.str (Str.ofString "end"))) .nil)))) (.call 21 [] (.cons (.var 1) (.cons (.o2 .idx (.var 3) (.var 2)) .nil)))) [.v A, .v (spD sp), .v (.int (sideI one)), .un] d.dat [] = .ok (some (.bool (hitB sp one d)), []) := by
  have ii := fun cu => law_in_ok hq (n := n) sp cu
  cases d <;> cases one <;> simp [compF, bindTg, Deed.dat, hitB, sideI, evE, getV, op_idx_t, op_isin_t, tru_b, eqv_ss, place, R.chk, cellsAt, putCells, ii, lends, owned, hasList]
theorem law_hits_ok {P : Prog} (hq : P.defs 21 = some ⟨0, 2, 5, b_law_in⟩) (hr : P.defs 31 = some ⟨0, 3, 4, b_law_hits⟩) {n : Nat} (sp : List Str) (one : Bool) (h : List Deed) :
    evC P (n + 2) 31 [hisD h, spD sp, .int (sideI one)] [] = .ok (.list (h.map fun d => .bool (hitB sp one d)), []) := by
  refine evC_ok hr ⟨rfl, rfl⟩ (r := .rt (.list (h.map fun d => .bool (hitB sp one d))) []) ?_ rfl
  show evS ⟨P.consts, evC P (n + 1)⟩ 0 b_law_hits [.v (hisD h), .v (spD sp), .v (.int (sideI one)), .un] [] = _
  have key : ∀ l : List Deed, compLoop (compF ⟨P.consts, evC P (n + 1)⟩ (.nm 3) (.lit (.bool true)) (.and (.o2 .isin (.o2 .idx (.var 3) (.lit (.int 0))) (.tup (.cons (.lit (.str (Str.ofString "way"))) (.cons (.lit (.str (Str.ofString "end"))) .nil)))) (.call 21 [] (.cons (.var 1) (.cons (.o2 .idx (.var 3) (.var 2)) .nil)))) [.v (hisD h), .v (spD sp), .v (.int (sideI one)), .un]) (l.map Deed.dat) [] = .ok (l.map fun d => .bool (hitB sp one d), []) := fun l => by
    induction l with
    | nil => rfl
    | cons d l ih => simp only [List.map_cons, compLoop, law_hit_ok hq, ih, R.ok_bind]
  have c := comp_ok (G := ⟨P.consts, evC P (n + 1)⟩) (src := .var 0) (vs := [.v (hisD h), .v (spD sp), .v (.int (sideI one)), .un]) (cs := []) rfl rfl rfl (key h)
  simp only [b_law_hits, evS]
  rw [c]
  rfl
end LP
set_option autoImplicit false
set_option linter.all false
set_option maxRecDepth 100000
set_option maxHeartbeats 1000000
namespace LP
open PySem LP.T
def trackD (h : List Deed) (sp : List Str) (o : Str) : D :=
  .tuple [spD sp, .str o, .list ((o :: ownsFrom sp o h).map .str), .list (h.map fun d => .bool (hitB sp true d)), .list (h.map fun d => .bool (hitB sp false d))]
theorem law_track_ok {P : Prog} (hq : P.defs 21 = some ⟨0, 2, 5, b_law_in⟩) (hr : P.defs 29 = some ⟨0, 3, 3, b_law_owner⟩) (ht : P.defs 30 = some ⟨0, 3, 5, b_law_owners⟩) (hu : P.defs 31 = some ⟨0, 3, 4, b_law_hits⟩) (hv : P.defs 32 = some ⟨0, 3, 5, b_law_track⟩) {n : Nat} (sp : List Str) (o : Str) (h : List Deed) (hl : h.length < 900) :
    evC P (n + 4) 32 [hisD h, spD sp, .str o] [] = .ok (trackD h sp o, []) := by
  have k1 : evC P (n + 3) 31 [hisD h, spD sp, .int 1] [] = _ := law_hits_ok hq hu (n := n + 1) sp true h
  have k2 : evC P (n + 3) 31 [hisD h, spD sp, .int 2] [] = _ := law_hits_ok hq hu (n := n + 1) sp false h
  have w := law_owners_ok hq hr ht (n := n) sp o h hl
  refine evC_ok hv ⟨rfl, rfl⟩ (r := .rt (trackD h sp o) []) ?_ rfl
  show evS ⟨P.consts, evC P (n + 3)⟩ 0 b_law_track [.v (hisD h), .v (spD sp), .v (.str o), .un, .un] [] = _
  simp [b_law_track, evS, evE_comp, evE, compF, compLoop, bindTg, getV, seqOf, noCel, isCel, op_idx_l, place, tru_b, R.chk, cellsAt, putCells, k1, k2, w, lends, owned, trackD]
end LP
set_option autoImplicit false
set_option linter.all false
set_option maxRecDepth 100000
set_option maxHeartbeats 1000000
namespace LP
open PySem LP.T
abbrev uBody : S := (.seq (.asg 6 (.ife (.and (.o2 .idx (.o2 .idx (.var 1) (.lit (.int 3))) (.var 4)) (.o2 .idx (.o2 .idx (.var 2) (.lit (.int 4))) (.var 4))) (.o2 .eq (.o2 .idx (.var 5) (.lit (.int 0))) (.lit (.str (Str.ofString "way")))) (.o2 .idx (.pk 3) (.o1 .neg (.lit (.int 1)))))) (.app 3 (.and (.var 6) (.o2 .ne (.o2 .idx (.o2 .idx (.var 1) (.lit (.int 2))) (.o2 .add (.var 4) (.lit (.int 1)))) (.o2 .idx (.o2 .idx (.var 2) (.lit (.int 2))) (.o2 .add (.var 4) (.lit (.int 1))))))))
theorem truth_step {P : Prog} (C : C18 P) {cl : Nat → List D → Cs → R (D × Cs)} {A a1 a2 a3 b1 b2 b3 : D} {x6 x7 x8 : Sl} {S G : List Bool} {M T : List Str} {i : Nat} {d : Deed} {acc : List D} {prev s g : Bool} {m t : Str} (hS : S[i]? = some s) (hGo : G[i]? = some g) (hM : M[i + 1]? = some m) (hT : T[i + 1]? = some t) (hl : acc.length < 1000) (hl2 : i + 1 < 1000) :
    ∃ y6 y7 y8, (do let vs ← bindTg (.tp [4, 5]) (.tuple [.int (i : Int), d.dat]) [.v A, .v (.tuple [a1, a2, .list (M.map .str), .list (S.map .bool), a3]), .v (.tuple [b1, b2, .list (T.map .str), b3, .list (G.map .bool)]), .c 0, x6, x7, x8]; evS ⟨P.consts, cl⟩ 0 uBody vs [acc ++ [PyData.bool prev]])
      = .ok (.nx [.v A, .v (.tuple [a1, a2, .list (M.map .str), .list (S.map .bool), a3]), .v (.tuple [b1, b2, .list (T.map .str), b3, .list (G.map .bool)]), .c 0, y6, y7, y8] [acc ++ [PyData.bool prev] ++ [PyData.bool ((if s && g then isWay d else prev) && !decide (m = t))]]) := by
  obtain ⟨w, ⟨tl, ed⟩, hw⟩ := first_way C d
  have hlen : (acc ++ [PyData.bool prev]).length < sz := by simp [sz]; omega
  have hpl : place (acc ++ [PyData.bool prev]).length (-1) = some acc.length := by rw [place_last (by simp)]; simp
  have hget : (acc ++ [PyData.bool prev])[acc.length]? = some (PyData.bool prev) := by simp
  have pS : place (S.map PyData.bool).length (i : Int) = some i := by
    have := (List.getElem?_eq_some_iff.mp hS).1
    rw [place_ok (by omega) (by rw [List.length_map]; omega)]; simp
  have pG : place (G.map PyData.bool).length (i : Int) = some i := by
    have := (List.getElem?_eq_some_iff.mp hGo).1
    rw [place_ok (by omega) (by rw [List.length_map]; omega)]; simp
  have pM : place (M.map PyData.str).length ((i : Int) + 1) = some (i + 1) := by
    have := (List.getElem?_eq_some_iff.mp hM).1
    rw [place_ok (by omega) (by rw [List.length_map]; omega)]; congr 1
  have pT : place (T.map PyData.str).length ((i : Int) + 1) = some (i + 1) := by
    have := (List.getElem?_eq_some_iff.mp hT).1
    rw [place_ok (by omega) (by rw [List.length_map]; omega)]; congr 1
  have gS : (S.map PyData.bool)[i]? = some (.bool s) := by rw [List.getElem?_map, hS]; rfl
  have gG : (G.map PyData.bool)[i]? = some (.bool g) := by rw [List.getElem?_map, hGo]; rfl
  have gM : (M.map PyData.str)[i + 1]? = some (.str m) := by rw [List.getElem?_map, hM]; rfl
  have gT : (T.map PyData.str)[i + 1]? = some (.str t) := by rw [List.getElem?_map, hT]; rfl
  have p0 : place (PyData.str w :: tl).length 0 = some 0 := place_ok (by decide) (by rw [List.length_cons]; omega)
  have q2 : ∀ a b c d e : D, op2 .idx (.tuple [a, b, c, d, e]) (.int 2) = .ok c := fun a b c d e => rfl
  have q3 : ∀ a b c d e : D, op2 .idx (.tuple [a, b, c, d, e]) (.int 3) = .ok d := fun a b c d e => rfl
  have q4 : ∀ a b c d e : D, op2 .idx (.tuple [a, b, c, d, e]) (.int 4) = .ok e := fun a b c d e => rfl
  have ch : R.chk (decide ((acc ++ [PyData.bool prev]).length < sz)) = .ok () := by rw [decide_eq_true hlen]; rfl
  refine ⟨.v (.int (i : Int)), .v d.dat, .v (.bool (if s && g then isWay d else prev)), ?_⟩
  rw [ed]
  cases s <;> cases g <;> cases prev <;> cases hww : isWay d <;> rw [hww] at hw <;>
    simp only [uBody, bindTg, itemsOf, bindAll, R.ok_bind, List.set, evS, evE, getV, getC, List.getElem?_cons_succ, List.getElem?_cons_zero, R.ofO_some, op_neg, op_idx_l, q2, q3, q4, op_idx_t, hpl, hget, pS, pG, pM, pT, gS, gG, gM, gT, p0, tru_b, if_true, Bool.false_eq_true, if_false, op_add_ii, op_ne_ss, op_eq_ss, hw, ch, Bool.and_true, Bool.true_and, Bool.and_false, Bool.false_and]
end LP
set_option autoImplicit false
set_option linter.all false
set_option maxRecDepth 100000
set_option maxHeartbeats 1000000
namespace LP
open PySem LP.T
theorem truth_loop {P : Prog} (C : C18 P) {cl : Nat → List D → Cs → R (D × Cs)} (s1 s2 : List Str) (o1 o2 : Str) (h : List Deed) (A a1 a2 a3 b1 b2 b3 : D) (hh : h.length < 900) : ∀ (r p : List Deed) (acc : List D) (prev : Bool) (x6 x7 x8 : Sl), p ++ r = h → acc.length = p.length →
    ∃ y6 y7 y8, forLoop (fun x vs cs => do let vs ← bindTg (.tp [4, 5]) x vs; evS ⟨P.consts, cl⟩ 0 uBody vs cs) (((r.map Deed.dat).zipIdx p.length).map fun q => .tuple [.int (q.2 : Int), q.1])
        [.v A, .v (.tuple [a1, a2, .list ((o1 :: ownsFrom s1 o1 h).map .str), .list ((h.map (hitB s1 true)).map .bool), a3]), .v (.tuple [b1, b2, .list ((o2 :: ownsFrom s2 o2 h).map .str), b3, .list ((h.map (hitB s2 false)).map .bool)]), .c 0, x6, x7, x8] [acc ++ [PyData.bool prev]]
      = .ok (.nx [.v A, .v (.tuple [a1, a2, .list ((o1 :: ownsFrom s1 o1 h).map .str), .list ((h.map (hitB s1 true)).map .bool), a3]), .v (.tuple [b1, b2, .list ((o2 :: ownsFrom s2 o2 h).map .str), b3, .list ((h.map (hitB s2 false)).map .bool)]), .c 0, y6, y7, y8]
          [acc ++ [PyData.bool prev] ++ (trF s1 s2 prev (p.foldl (ownA s1) o1) (p.foldl (ownA s2) o2) r).map PyData.bool])
  | [], p, acc, prev, x6, x7, x8, _, _ => ⟨x6, x7, x8, by simp [forLoop, trF]⟩
  | d :: r, p, acc, prev, x6, x7, x8, e, el => by
    have hi : p.length < h.length := by rw [← e]; simp
    have gd : h[p.length]? = some d := by rw [← e]; simp
    obtain ⟨z6, z7, z8, st⟩ := truth_step C (cl := cl) (A := A) (a1 := a1) (a2 := a2) (a3 := a3) (b1 := b1) (b2 := b2) (b3 := b3) (x6 := x6) (x7 := x7) (x8 := x8) (S := h.map (hitB s1 true)) (G := h.map (hitB s2 false)) (M := o1 :: ownsFrom s1 o1 h) (T := o2 :: ownsFrom s2 o2 h) (i := p.length) (d := d) (acc := acc) (prev := prev)
      (by rw [List.getElem?_map, gd]; rfl) (by rw [List.getElem?_map, gd]; rfl) (by rw [← e]; exact owns_at s1 p o1 d r) (by rw [← e]; exact owns_at s2 p o2 d r) (by omega) (by omega)
    obtain ⟨y6, y7, y8, ih⟩ := truth_loop C s1 s2 o1 o2 h A a1 a2 a3 b1 b2 b3 hh r (p ++ [d]) (acc ++ [PyData.bool prev]) ((if hitB s1 true d && hitB s2 false d then isWay d else prev) && !decide (ownA s1 (p.foldl (ownA s1) o1) d = ownA s2 (p.foldl (ownA s2) o2) d)) z6 z7 z8 (by simpa using e) (by simp [el])
    refine ⟨y6, y7, y8, ?_⟩
    rw [List.map_cons, List.zipIdx_cons, List.map_cons, forLoop]
    simp only
    rw [st]
    simp only [R.ok_bind]
    rw [List.length_append, List.length_singleton] at ih
    rw [ih]
    simp only [trF, List.map_cons, List.foldl_append, List.foldl_cons, List.foldl_nil, List.append_assoc, List.singleton_append, List.cons_append, List.nil_append]
end LP
set_option autoImplicit false
set_option linter.all false
set_option maxRecDepth 100000
set_option maxHeartbeats 1000000
namespace LP
open PySem LP.T
theorem truths_ok {P : Prog} (C : C18 P) (hr : P.defs 33 = some ⟨0, 3, 7, b_law_truths⟩) {n : Nat} (s1 s2 : List Str) (o1 o2 : Str) (h : List Deed) (hh : h.length < 900) :
    evC P (n + 1) 33 [hisD h, trackD h s1 o1, trackD h s2 o2] [] = .ok (.tuple ((false :: trF s1 s2 false o1 o2 h).map .bool), []) := by
  obtain ⟨y6, y7, y8, e⟩ := truth_loop C (cl := evC P n) s1 s2 o1 o2 h (hisD h) (spD s1) (.str o1) (.list (h.map fun d => .bool (hitB s1 false d))) (spD s2) (.str o2) (.list (h.map fun d => .bool (hitB s2 true d))) hh h [] [] false .un .un .un rfl rfl
  simp only [List.map_map] at e
  refine evC_ok hr ⟨rfl, rfl⟩ (r := .rt (.tuple ((false :: trF s1 s2 false o1 o2 h).map .bool)) [(false :: trF s1 s2 false o1 o2 h).map .bool]) ?_ rfl
  show evS ⟨P.consts, evC P n⟩ 0 b_law_truths [.v (hisD h), .v (trackD h s1 o1), .v (trackD h s2 o2), .un, .un, .un, .un] [] = _
  rw [b_law_truths, evS]
  have q1 : evS ⟨P.consts, evC P n⟩ 0 (.cel 3 (.lst (.cons (.lit (.bool false)) .nil))) [.v (hisD h), .v (trackD h s1 o1), .v (trackD h s2 o2), .un, .un, .un, .un] [] = .ok (.nx [.v (hisD h), .v (trackD h s1 o1), .v (trackD h s2 o2), .c 0, .un, .un, .un] [[.bool false]]) := rfl
  rw [q1]
  simp only [R.ok_bind]
  rw [evS]
  have q2 : evS ⟨P.consts, evC P n⟩ 0 (.fors (.tp [4, 5]) (.enum (.var 0)) uBody) [.v (hisD h), .v (trackD h s1 o1), .v (trackD h s2 o2), .c 0, .un, .un, .un] [[.bool false]] = .ok (.nx [.v (hisD h), .v (trackD h s1 o1), .v (trackD h s2 o2), .c 0, y6, y7, y8] [(false :: trF s1 s2 false o1 o2 h).map .bool]) := by
    rw [evS]
    exact e
  show (do match ← evS ⟨P.consts, evC P n⟩ 0 (.fors (.tp [4, 5]) (.enum (.var 0)) uBody) _ [[.bool false]] with | .nx vs cs => evS ⟨P.consts, evC P n⟩ 0 (.ret (.o1 .tup (.pk 3))) vs cs | f => R.ok f) = _
  rw [q2]
  rfl
end LP
set_option autoImplicit false
set_option linter.all false
set_option maxRecDepth 100000
set_option maxHeartbeats 1000000
namespace LP
open PySem LP.T
mutual
/-- tuples made lists -/
def lisD : D → D
  | .list xs => .list (lisDs xs)
  | .tuple xs => .list (lisDs xs)
  | d => d
def lisDs : List D → List D
  | [] => []
  | x :: xs => lisD x :: lisDs xs
end
theorem lisDs_map : ∀ xs : List D, lisDs xs = xs.map lisD
  | [] => rfl
  | x :: xs => by rw [lisDs, lisDs_map xs]; rfl
theorem lists_ok {P : Prog} (hp : P.defs 18 = some ⟨0, 1, 2, b_law_lists⟩) : ∀ (n : Nat) (d : D), d.depth < n → evC P n 18 [d] [] = .ok (lisD d, [])
  | 0, d, h => by omega
  | n + 1, d, h => by
    refine evC_ok hp ⟨rfl, rfl⟩ (r := .rt (lisD d) []) ?_ rfl
    show evS ⟨P.consts, evC P n⟩ 0 b_law_lists [.v d, .un] [] = _
    have key : ∀ xs : List D, (∀ x ∈ xs, x.depth < n) → compLoop (compF ⟨P.consts, evC P n⟩ (.nm 1) (.lit (.bool true)) (.call 18 [] (.cons (.var 1) .nil)) [.v d, .un]) xs [] = .ok (xs.map lisD, []) := fun xs hx => by
      refine compLoop_map lisD fun x hm => ?_
      have e := lists_ok hp n x (hx x hm)
      simp [compF, bindTg, evE, getV, cellsAt, putCells, tru, e, lends, owned, R.chk]
    have ch : ∀ xs : List D, (d = .list xs ∨ d = .tuple xs) → ∀ x ∈ xs, x.depth < n := fun xs hd x hx => by
      have := depth_mem hx
      rcases hd with rfl | rfl
      · simp only [PyData.depth] at h; omega
      · simp only [PyData.depth] at h; omega
    cases d with
    | list xs =>
      have c := comp_ok (G := ⟨P.consts, evC P n⟩) (src := .var 0) (vs := [.v (.list xs), .un]) (cs := []) rfl rfl rfl (key xs (ch xs (.inl rfl)))
      simp only [b_law_lists, evS]
      rw [evE]
      simp only [show evE ⟨P.consts, evC P n⟩ (.isi (.var 0) [.list, .tuple]) [.v (.list xs), .un] [] = .ok (.bool true, []) from rfl, R.ok_bind, tru, if_true]
      rw [c]
      simp only [R.ok_bind, lisD, lisDs_map]
    | tuple xs =>
      have c := comp_ok (G := ⟨P.consts, evC P n⟩) (src := .var 0) (vs := [.v (.tuple xs), .un]) (cs := []) rfl rfl rfl (key xs (ch xs (.inr rfl)))
      simp only [b_law_lists, evS]
      rw [evE]
      simp only [show evE ⟨P.consts, evC P n⟩ (.isi (.var 0) [.list, .tuple]) [.v (.tuple xs), .un] [] = .ok (.bool true, []) from rfl, R.ok_bind, tru, if_true]
      rw [c]
      simp only [R.ok_bind, lisD, lisDs_map]
    | _ => rfl
end LP
set_option autoImplicit false
set_option linter.all false
set_option maxRecDepth 100000
set_option maxHeartbeats 1000000
namespace LP
open PySem LP.T
def noDict : D → Bool
  | .dict _ => false
  | _ => true
theorem same_ok {P : Prog} (hp : P.defs 17 = some ⟨0, 2, 4, b_law_same⟩) : ∀ (n : Nat) (d : D), d.depth < n → d.plain = true → evC P n 17 [d, d] [] = .ok (.bool true, [])
  | 0, d, h, _ => by omega
  | n + 1, d, h, hpl => by
    refine evC_ok hp ⟨rfl, rfl⟩ (r := .rt (.bool true) []) ?_ rfl
    show evS ⟨P.consts, evC P n⟩ 0 b_law_same [.v d, .v d, .un, .un] [] = _
    have key : ∀ xs : List D, (∀ x ∈ xs, x.depth < n ∧ x.plain = true) → compLoop (compF ⟨P.consts, evC P n⟩ (.tp [2, 3]) (.lit (.bool true)) (.call 17 [] (.cons (.var 2) (.cons (.var 3) .nil))) [.v d, .v d, .un, .un]) (pairs xs xs) [] = .ok (xs.map fun _ => .bool true, []) := fun xs => by
      induction xs with
      | nil => intro _; rfl
      | cons x xs ih =>
        intro hx
        have e := same_ok hp n x (hx x (List.mem_cons_self ..)).1 (hx x (List.mem_cons_self ..)).2
        have e2 : compF ⟨P.consts, evC P n⟩ (.tp [2, 3]) (.lit (.bool true)) (.call 17 [] (.cons (.var 2) (.cons (.var 3) .nil))) [.v d, .v d, .un, .un] (.tuple [x, x]) [] = .ok (some (.bool true), []) := by
          simp [compF, bindTg, itemsOf, bindAll, evE, getV, cellsAt, putCells, tru, e, lends, owned, R.chk]
        show compLoop _ (.tuple [x, x] :: pairs xs xs) [] = _
        simp only [compLoop, e2, ih fun z hz => hx z (List.mem_cons_of_mem _ hz), R.ok_bind, List.map_cons]
    have ch : ∀ xs : List D, (d = .list xs ∨ d = .tuple xs) → ∀ x ∈ xs, x.depth < n ∧ x.plain = true := fun xs hd x hx => by
      have := depth_mem hx
      have pm : ∀ (l : List D) (z : D), z ∈ l → PyData.plainAll l = true → z.plain = true := fun l => by
        induction l with
        | nil => intro z hz; cases hz
        | cons y l ih =>
          intro z hz hp
          simp only [PyData.plainAll, Bool.and_eq_true] at hp
          rcases List.mem_cons.mp hz with q | q
          · rw [q]; exact hp.1
          · exact ih z q hp.2
      rcases hd with rfl | rfl
      · simp only [PyData.depth] at h; simp only [PyData.plain] at hpl; exact ⟨by omega, pm xs x hx hpl⟩
      · simp only [PyData.depth] at h; simp only [PyData.plain] at hpl; exact ⟨by omega, pm xs x hx hpl⟩
    have al : ∀ xs : List D, op1 .all (.list (xs.map fun _ => PyData.bool true)) = .ok (.bool true) := fun xs => by
      have : ∀ l : List D, allM asBool (l.map fun _ => PyData.bool true) = .ok (l.map fun _ => true) := fun l => by
        induction l with
        | nil => rfl
        | cons y l ih => simp only [List.map_cons, allM, asBool, ih, R.ok_bind]
      simp only [op1, this, R.ok_bind]
      congr 2
      simp
    have ne : ∀ b : Bool, op2 .ne (.bool b) (.bool b) = .ok (.bool false) := fun b => by cases b <;> rfl
    have eqi : ∀ i : Int, op2 .eq (.int i) (.int i) = .ok (.bool true) := fun i => by simp only [op2, PyData.depth, eqv_ii, decide_true]; rfl
    have eqs : ∀ i : Str, op2 .eq (.str i) (.str i) = .ok (.bool true) := fun i => by simp only [op_eq_ss, decide_true]
    have eqb : ∀ b : Bool, op2 .eq (.bool b) (.bool b) = .ok (.bool true) := fun b => by cases b <;> rfl
    cases d with
    | list xs =>
      have c := comp_ok (G := ⟨P.consts, evC P n⟩) (src := .zip (.var 0) (.var 1)) (vs := [.v (.list xs), .v (.list xs), .un, .un]) (cs := []) rfl rfl rfl (key xs (ch xs (.inl rfl)))
      have c2 : evE ⟨P.consts, evC P n⟩ (.o1 .all (.comp (.tp [2, 3]) (.zip (.var 0) (.var 1)) (.lit (.bool true)) (.call 17 [] (.cons (.var 2) (.cons (.var 3) .nil))))) [.v (.list xs), .v (.list xs), .un, .un] [] = .ok (.bool true, []) := by
        rw [evE, c]; simp only [R.ok_bind, al]
      have l2 : evE ⟨P.consts, evC P n⟩ (.o2 .eq (.o1 .len (.var 0)) (.o1 .len (.var 1))) [.v (.list xs), .v (.list xs), .un, .un] [] = .ok (.bool true, []) := by
        simp only [evE, getV, List.getElem?_cons_succ, List.getElem?_cons_zero, R.ok_bind, op1, itemsOf, eqi]
      simp only [b_law_same, evS]
      rw [show evE ⟨P.consts, evC P n⟩ (.isi (.var 1) [.list, .tuple]) [.v (.list xs), .v (.list xs), .un, .un] [] = .ok (.bool true, []) from rfl]
      simp only [R.ok_bind, tru_b, if_true]
      rw [show evE ⟨P.consts, evC P n⟩ (.or (.o2 .ne (.isi (.var 0) [.list]) (.isi (.var 1) [.list])) (.o2 .ne (.isi (.var 0) [.tuple]) (.isi (.var 1) [.tuple]))) [.v (.list xs), .v (.list xs), .un, .un] [] = .ok (.bool false, []) from rfl]
      simp only [R.ok_bind, tru_b, Bool.false_eq_true, if_false]
      rw [evE, l2]
      simp only [R.ok_bind, tru_b, if_true]
      rw [c2]
      rfl
    | tuple xs =>
      have c := comp_ok (G := ⟨P.consts, evC P n⟩) (src := .zip (.var 0) (.var 1)) (vs := [.v (.tuple xs), .v (.tuple xs), .un, .un]) (cs := []) rfl rfl rfl (key xs (ch xs (.inr rfl)))
      have c2 : evE ⟨P.consts, evC P n⟩ (.o1 .all (.comp (.tp [2, 3]) (.zip (.var 0) (.var 1)) (.lit (.bool true)) (.call 17 [] (.cons (.var 2) (.cons (.var 3) .nil))))) [.v (.tuple xs), .v (.tuple xs), .un, .un] [] = .ok (.bool true, []) := by
        rw [evE, c]; simp only [R.ok_bind, al]
      have l2 : evE ⟨P.consts, evC P n⟩ (.o2 .eq (.o1 .len (.var 0)) (.o1 .len (.var 1))) [.v (.tuple xs), .v (.tuple xs), .un, .un] [] = .ok (.bool true, []) := by
        simp only [evE, getV, List.getElem?_cons_succ, List.getElem?_cons_zero, R.ok_bind, op1, itemsOf, eqi]
      simp only [b_law_same, evS]
      rw [show evE ⟨P.consts, evC P n⟩ (.isi (.var 1) [.list, .tuple]) [.v (.tuple xs), .v (.tuple xs), .un, .un] [] = .ok (.bool true, []) from rfl]
      simp only [R.ok_bind, tru_b, if_true]
      rw [show evE ⟨P.consts, evC P n⟩ (.or (.o2 .ne (.isi (.var 0) [.list]) (.isi (.var 1) [.list])) (.o2 .ne (.isi (.var 0) [.tuple]) (.isi (.var 1) [.tuple]))) [.v (.tuple xs), .v (.tuple xs), .un, .un] [] = .ok (.bool false, []) from rfl]
      simp only [R.ok_bind, tru_b, Bool.false_eq_true, if_false]
      rw [evE, l2]
      simp only [R.ok_bind, tru_b, if_true]
      rw [c2]
      rfl
    | none => rfl
    | bool b => cases b <;> rfl
    | int i => simp [b_law_same, evS, evE, getV, isTy, tru_b, op_nt, eqi, op1, notNone]
    | str z => simp [b_law_same, evS, evE, getV, isTy, tru_b, op_nt, eqs, eqb, op1, notNone]
    | dict _ => cases hpl
end LP
set_option autoImplicit false
set_option linter.all false
set_option maxRecDepth 100000
set_option maxHeartbeats 1000000
namespace LP
open PySem LP.T
mutual
theorem tup_lis : ∀ d : D, tupD (lisD d) = tupD d
  | .none => rfl
  | .bool _ => rfl
  | .int _ => rfl
  | .str _ => rfl
  | .list xs => by simp only [lisD, tupD, tups_lis xs]
  | .tuple xs => by simp only [lisD, tupD, tups_lis xs]
  | .dict _ => rfl
theorem tups_lis : ∀ xs : List D, tupDs (lisDs xs) = tupDs xs
  | [] => rfl
  | x :: xs => by simp only [lisDs, tupDs, tup_lis x, tups_lis xs]
end
mutual
theorem lis_depth : ∀ d : D, (lisD d).depth = d.depth
  | .none => rfl
  | .bool _ => rfl
  | .int _ => rfl
  | .str _ => rfl
  | .list xs => by simp only [lisD, PyData.depth, liss_depth xs]
  | .tuple xs => by simp only [lisD, PyData.depth, liss_depth xs]
  | .dict _ => rfl
theorem liss_depth : ∀ xs : List D, PyData.depthAll (lisDs xs) = PyData.depthAll xs
  | [] => rfl
  | x :: xs => by simp only [lisDs, PyData.depthAll, lis_depth x, liss_depth xs]
end
mutual
theorem lis_plain : ∀ d : D, d.plain = true → (lisD d).plain = true
  | .none, h => h
  | .bool _, h => h
  | .int _, h => h
  | .str _, h => h
  | .list xs, h => by simp only [lisD, PyData.plain] at h ⊢; exact liss_plain xs h
  | .tuple xs, h => by simp only [lisD, PyData.plain] at h ⊢; exact liss_plain xs h
  | .dict _, h => h
theorem liss_plain : ∀ xs : List D, PyData.plainAll xs = true → PyData.plainAll (lisDs xs) = true
  | [], _ => rfl
  | x :: xs, h => by
    simp only [PyData.plainAll, Bool.and_eq_true] at h
    simp only [lisDs, PyData.plainAll, lis_plain x h.1, liss_plain xs h.2, Bool.and_self]
end
theorem depthAll_le {k : Nat} : ∀ {xs : List D}, (∀ x ∈ xs, x.depth ≤ k) → PyData.depthAll xs ≤ k
  | [], _ => Nat.zero_le _
  | x :: xs, h => by
    simp only [PyData.depthAll]
    have := h x (List.mem_cons_self ..)
    have := depthAll_le (xs := xs) fun z hz => h z (List.mem_cons_of_mem _ hz)
    omega
theorem plainAll_of : ∀ {xs : List D}, (∀ x ∈ xs, x.plain = true) → PyData.plainAll xs = true
  | [], _ => rfl
  | x :: xs, h => by simp only [PyData.plainAll, h x (List.mem_cons_self ..), plainAll_of (xs := xs) fun z hz => h z (List.mem_cons_of_mem _ hz), Bool.and_self]
theorem noAll_of : ∀ {xs : List D}, (∀ x ∈ xs, hasList x = false) → hasListAll xs = false
  | [], _ => rfl
  | x :: xs, h => by simp only [hasListAll, h x (List.mem_cons_self ..), noAll_of (xs := xs) fun z hz => h z (List.mem_cons_of_mem _ hz), Bool.or_self]
/-- flat facts of data -/
structure Flt (k : Nat) (d : D) : Prop where
  dep : d.depth ≤ k
  pl : d.plain = true
  nl : hasList d = false
theorem Flt.tup {k : Nat} {xs : List D} (h : ∀ x ∈ xs, Flt k x) : Flt (k + 1) (.tuple xs) :=
  ⟨by simp only [PyData.depth]; have := depthAll_le fun x hx => (h x hx).dep; omega, by simp only [PyData.plain]; exact plainAll_of fun x hx => (h x hx).pl, by simp only [hasList]; exact noAll_of fun x hx => (h x hx).nl⟩
theorem Flt.mono {k l : Nat} {d : D} (h : Flt k d) (hl : k ≤ l) : Flt l d := ⟨Nat.le_trans h.dep hl, h.pl, h.nl⟩
theorem flt_str (z : Str) : Flt 0 (.str z) := ⟨Nat.le_refl _, rfl, rfl⟩
theorem flt_bool (z : Bool) : Flt 0 (.bool z) := ⟨Nat.le_refl _, rfl, rfl⟩
theorem flt_sp (sp : List Str) : Flt 1 (spD sp) := .tup fun x hx => by obtain ⟨z, _, rfl⟩ := List.mem_map.mp hx; exact flt_str z
theorem flt_cl (cl : List (Str × Bool)) : Flt 2 (clD cl) := .tup fun x hx => by
  obtain ⟨z, _, rfl⟩ := List.mem_map.mp hx
  refine .tup fun y hy => ?_
  simp only [List.mem_cons, List.not_mem_nil, or_false] at hy
  rcases hy with rfl | rfl
  · exact flt_str _
  · exact flt_bool _
theorem flt_cu (cu : Cut) : Flt 3 (cuD cu) := .tup fun x hx => by obtain ⟨z, _, rfl⟩ := List.mem_map.mp hx; exact flt_cl z
theorem flt_deed (d : Deed) : Flt 4 d.dat := by
  cases d <;> refine .tup fun y hy => ?_ <;> simp only [List.mem_cons, List.not_mem_nil, or_false] at hy
  · rcases hy with rfl | rfl | rfl | rfl
    · exact (flt_str _).mono (by decide)
    · exact (flt_str _).mono (by decide)
    · exact (flt_str _).mono (by decide)
    · exact flt_cu _
  · rcases hy with rfl | rfl | rfl | rfl
    · exact (flt_str _).mono (by decide)
    · exact (flt_str _).mono (by decide)
    · exact (flt_str _).mono (by decide)
    · exact flt_cu _
  · rcases hy with rfl | rfl | rfl
    · exact (flt_str _).mono (by decide)
    · exact (flt_str _).mono (by decide)
    · exact flt_cu _
  · rcases hy with rfl | rfl | rfl
    · exact (flt_str _).mono (by decide)
    · exact flt_cu _
    · exact flt_cu _
  · rcases hy with rfl | rfl | rfl
    · exact (flt_str _).mono (by decide)
    · exact flt_cu _
    · exact flt_cu _
  · rcases hy with rfl | rfl | rfl
    · exact (flt_str _).mono (by decide)
    · exact (flt_str _).mono (by decide)
    · exact flt_cu _
theorem flt_his (h : List Deed) : Flt 5 (hisD h) := .tup fun x hx => by obtain ⟨z, _, rfl⟩ := List.mem_map.mp hx; exact flt_deed z
theorem flt_bools (l : List Bool) : Flt 1 (.tuple (l.map .bool)) := .tup fun x hx => by obtain ⟨z, _, rfl⟩ := List.mem_map.mp hx; exact flt_bool z
end LP
set_option autoImplicit false
set_option linter.all false
set_option maxRecDepth 100000
set_option maxHeartbeats 1000000
namespace LP
open PySem LP.T
theorem seqOf_l (xs : List D) : seqOf (.list xs) = .ok xs := rfl
theorem seqOf_t (xs : List D) : seqOf (.tuple xs) = .ok xs := rfl
theorem itemsOf_l (xs : List D) : itemsOf (.list xs) = .ok xs := rfl
theorem itemsOf_t (xs : List D) : itemsOf (.tuple xs) = .ok xs := rfl
theorem op_lst_t (xs : List D) : op1 .lst (.tuple xs) = .ok (.list xs) := rfl
theorem op_lst_l (xs : List D) : op1 .lst (.list xs) = .ok (.list xs) := rfl
theorem op_tup_t (xs : List D) : op1 .tup (.tuple xs) = .ok (.tuple xs) := rfl
theorem op_tup_l (xs : List D) : op1 .tup (.list xs) = .ok (.tuple xs) := rfl
theorem place_0 {n : Nat} : place (n + 1) 0 = some 0 := by unfold place; rw [if_pos (by decide), if_pos (by omega)]; rfl
theorem place_1 {n : Nat} : place (n + 1 + 1) 1 = some 1 := by unfold place; rw [if_pos (by decide), if_pos (by omega)]; rfl
theorem place_2 {n : Nat} : place (n + 1 + 1 + 1) 2 = some 2 := by unfold place; rw [if_pos (by decide), if_pos (by omega)]; rfl
theorem permute_ok {ds r : List D} {perm : List Nat} {Q : List D → Prop} (h : permute perm ds = .ok r) (hQ : Q r) : wp (permute perm ds) Q := wp_eq h hQ
/-- the last of the truths -/
def lastT (s1 s2 : List Str) (o1 o2 : Str) (h : List Deed) : Bool := (false :: trF s1 s2 false o1 o2 h).getLast (by simp)
theorem idx_last (l : List Bool) (hn : l ≠ []) : op2 .idx (.tuple (l.map .bool)) (.int (-1)) = .ok (.bool (l.getLast hn)) := by
  have hp : 0 < l.length := List.length_pos_iff.mpr hn
  rw [op_idx_t, List.length_map, place_last hp]
  simp only [R.ofO_some, R.ok_bind, List.getElem?_map]
  rw [List.getLast_eq_getElem, List.getElem?_eq_getElem (by omega)]
  rfl
theorem idx_lastT (s1 s2 : List Str) (o1 o2 : Str) (h : List Deed) : op2 .idx (.tuple (PyData.bool false :: (trF s1 s2 false o1 o2 h).map PyData.bool)) (.int (-1)) = .ok (.bool (lastT s1 s2 o1 o2 h)) := idx_last (false :: trF s1 s2 false o1 o2 h) (List.cons_ne_nil _ _)
theorem way1 {n : Nat} (s1 s2 : List Str) (o1 o2 : Str) (h : List Deed) (hh : h.length < 900) {X Y Z : D} (eX : tupD X = hisD h) (eY : tupD Y = spD s1) (eZ : tupD Z = spD s2) (dX : X.depth < n + 4) (dY : Y.depth < n + 4) (dZ : Z.depth < n + 4) :
    evC prog (n + 5) 12 [X, Y, .str o1, Z, .str o2] [] = .ok (.tuple ((false :: trF s1 s2 false o1 o2 h).map .bool), []) :=
  way_ok ⟨rfl, rfl, rfl, rfl, rfl⟩ rfl rfl rfl rfl rfl rfl rfl rfl s1 s2 o1 o2 h hh eX eY eZ dX dY dZ
theorem behind1 {n : Nat} (s1 s2 : List Str) (o1 o2 : Str) (h : List Deed) (hh : h.length < 900) {X Y Z : D} (eX : tupD X = hisD h) (eY : tupD Y = spD s1) (eZ : tupD Z = spD s2) (dX : X.depth < n + 4) (dY : Y.depth < n + 4) (dZ : Z.depth < n + 4) :
    evC prog (n + 6) 13 [X, Y, .str o1, Z, .str o2] [] = .ok (.bool (lastT s1 s2 o1 o2 h), []) := by
  refine eq_of_wp (c_way_behind ?_)
  have := way1 (n := n) s1 s2 o1 o2 h hh eX eY eZ dX dY dZ
  simp only [we_lit, we_gl, we_var, we_pk, we_nil, consK_t, we_cons, we_tup, lstK_t, we_lst, we_o1, we_o2, we_and, we_or, we_ife, we_isi, we_sl, we_nob, we_comp, we_rng1, we_rng2, we_enum, we_zip, callK_t, we_call, callkK_t, we_callk, calltK_l, we_callt, c_step, l_step, k_nx, k_rt, k_bk, k_ct, t_nx, t_ct, t_bk, t_rt, ws_nop, ws_seq, ws_ret, ws_retc, ws_retN, ws_asg, celK_l, ws_cel, parK_t, ws_par, ws_unp, ws_ifs, ws_fors, ws_expr, ws_app, ws_setx, ws_brk, ws_cont, ws_frz, getV_v, getV_s, getC_c, getC_s, bindTg_nm, bindTg_t, bindTg_l, bindAll_n, bindAll_c, cellsAt_n, cellsAt_c, ownAll_n, putCells_n, putCells_c, out_rt, out_nx, wp_ok, wp_some, wp_bind, GG_cl, GG_co, List.set_cons_zero, List.set_cons_succ, List.getElem?_cons_zero, List.getElem?_cons_succ, List.map_cons, List.map_nil, if_true, if_false, Bool.false_eq_true, tru_b, op_nt, op_neg, seqOf_l, seqOf_t, itemsOf_l, itemsOf_t, lends, owned, hasList, Bool.not_false, Bool.not_true, Bool.or_true, Bool.true_or, Bool.or_false, Bool.false_or, Bool.and_true, Bool.true_and, List.all_nil, List.all_cons, true_and, and_true, List.take_zero, List.take_succ_cons, List.take_nil, noCel, isCel, List.length_cons, List.length_nil, List.length_append, List.nil_append, List.cons_append, consts, permute, allM, R.ofO_some, R.ok_bind, List.append_assoc, Nat.zero_add, b_way_behind, this, idx_lastT]
theorem case_right1 {n : Nat} (s1 s2 : List Str) (o1 o2 : Str) (h : List Deed) (hh : h.length < 900) :
    evC prog (n + 12) 34 [hisD h, spD s1, .str o1, spD s2, .str o2] [] = .ok (.bool true, []) := by
  refine eq_of_wp (c_law_case_right ?_)
  have t1 := law_track_ok (P := prog) rfl rfl rfl rfl rfl (n := n + 7) s1 o1 h hh
  have t2 := law_track_ok (P := prog) rfl rfl rfl rfl rfl (n := n + 7) s2 o2 h hh
  have t3 := truths_ok (P := prog) ⟨rfl, rfl, rfl, rfl, rfl⟩ rfl (n := n + 10) s1 s2 o1 o2 h hh
  have fh := flt_his h
  have f1 := flt_sp s1
  have f2 := flt_sp s2
  have l1 := lists_ok (P := prog) rfl (n + 11) (hisD h) (by have := fh.dep; omega)
  have dl : (lisD (hisD h)).depth ≤ 5 := by rw [lis_depth]; exact fh.dep
  have tl : tupD (lisD (hisD h)) = hisD h := by rw [tup_lis]; exact tupD_id _ fh.nl
  have q1 : tupD (.list (s1.map PyData.str)) = spD s1 := tupD_id (spD s1) f1.nl
  have q2 : tupD (.list (s2.map PyData.str)) = spD s2 := tupD_id (spD s2) f2.nl
  have e1 : (PyData.list (s1.map PyData.str)).depth ≤ 1 := f1.dep
  have e2 : (PyData.list (s2.map PyData.str)).depth ≤ 1 := f2.dep
  have w1 := way1 (n := n + 6) s1 s2 o1 o2 h hh (tupD_id _ fh.nl) (tupD_id _ f1.nl) (tupD_id _ f2.nl) (by have := fh.dep; omega) (by have := f1.dep; omega) (by have := f2.dep; omega)
  have w2 := behind1 (n := n + 5) s1 s2 o1 o2 h hh (tupD_id _ fh.nl) (tupD_id _ f1.nl) (tupD_id _ f2.nl) (by have := fh.dep; omega) (by have := f1.dep; omega) (by have := f2.dep; omega)
  have w3 := way1 (n := n + 6) s1 s2 o1 o2 h hh tl q1 q2 (by omega) (by omega) (by omega)
  have w4 := behind1 (n := n + 5) s1 s2 o1 o2 h hh tl (tupD_id _ f1.nl) (tupD_id _ f2.nl) (by omega) (by have := f1.dep; omega) (by have := f2.dep; omega)
  have o1' : op1 .lst (spD s1) = .ok (.list (s1.map .str)) := rfl
  have o2' : op1 .lst (spD s2) = .ok (.list (s2.map .str)) := rfl
  have nl1 : hasList (.tuple ((false :: trF s1 s2 false o1 o2 h).map .bool)) = false := (flt_bools _).nl
  have hz : (1 : Nat) < sz := by decide
  have hs := same_ok (P := prog) rfl (n + 11) (.list [.tuple (PyData.bool false :: (trF s1 s2 false o1 o2 h).map PyData.bool), .bool (lastT s1 s2 o1 o2 h), .tuple (PyData.bool false :: (trF s1 s2 false o1 o2 h).map PyData.bool), .list [lisD (hisD h), .list (s1.map PyData.str), .list (s2.map PyData.str)], .bool (lastT s1 s2 o1 o2 h)])
    (by
      have := (flt_bools (false :: trF s1 s2 false o1 o2 h)).dep
      simp only [List.map_cons, PyData.depth, PyData.depthAll] at this dl e1 e2 ⊢
      omega)
    (by
      have p1 := (flt_bools (false :: trF s1 s2 false o1 o2 h)).pl
      have p2 := lis_plain _ fh.pl
      have p3 := f1.pl
      have p4 := f2.pl
      simp only [spD, List.map_cons, PyData.plain, PyData.plainAll, Bool.true_and, Bool.and_true] at p1 p2 p3 p4 ⊢
      simp only [p1, p2, p3, p4, Bool.and_self])
  simp only [we_lit, we_gl, we_var, we_pk, we_nil, consK_t, we_cons, we_tup, lstK_t, we_lst, we_o1, we_o2, we_and, we_or, we_ife, we_isi, we_sl, we_nob, we_comp, we_rng1, we_rng2, we_enum, we_zip, callK_t, we_call, callkK_t, we_callk, calltK_l, we_callt, c_step, l_step, k_nx, k_rt, k_bk, k_ct, t_nx, t_ct, t_bk, t_rt, ws_nop, ws_seq, ws_ret, ws_retc, ws_retN, ws_asg, celK_l, ws_cel, parK_t, ws_par, ws_unp, ws_ifs, ws_fors, ws_expr, ws_app, ws_setx, ws_brk, ws_cont, ws_frz, getV_v, getV_s, getC_c, getC_s, bindTg_nm, bindTg_t, bindTg_l, bindAll_n, bindAll_c, cellsAt_n, cellsAt_c, ownAll_n, putCells_n, putCells_c, out_rt, out_nx, wp_ok, wp_some, wp_bind, GG_cl, GG_co, List.set_cons_zero, List.set_cons_succ, List.getElem?_cons_zero, List.getElem?_cons_succ, List.map_cons, List.map_nil, if_true, if_false, Bool.false_eq_true, tru_b, op_nt, op_neg, seqOf_l, seqOf_t, itemsOf_l, itemsOf_t, lends, owned, hasList, Bool.not_false, Bool.not_true, Bool.or_true, Bool.true_or, Bool.or_false, Bool.false_or, Bool.and_true, Bool.true_and, List.all_nil, List.all_cons, true_and, and_true, List.take_zero, List.take_succ_cons, List.take_nil, noCel, isCel, List.length_cons, List.length_nil, List.length_append, List.nil_append, List.cons_append, consts, permute, allM, R.ofO_some, R.ok_bind, List.append_assoc, Nat.zero_add, b_law_case_right, t1, t2, t3, l1, w1, w2, w3, w4, o1', o2', op_idx_l, place_0, place_1, place_2, idx_lastT, hs]
  decide
end LP
set_option autoImplicit false
set_option linter.all false
set_option maxRecDepth 100000
set_option maxHeartbeats 1000000
namespace LP
open PySem LP.T
theorem op_eq_ii (a b : Int) : op2 .eq (.int a) (.int b) = .ok (.bool (decide (a = b))) := by simp only [op2, PyData.depth, eqv_ii]; rfl
theorem op_int_b (b : Bool) : op1 .int (.bool b) = .ok (.int (if b then 1 else 0)) := rfl
theorem op_int_i (i : Int) : op1 .int (.int i) = .ok (.int i) := rfl
theorem op_sub_ii (a b : Int) : op2 .sub (.int a) (.int b) = .ok (.int (a - b)) := rfl
theorem op_gt_ii (a b : Int) : op2 .gt (.int a) (.int b) = .ok (.bool (decide (b < a))) := rfl
theorem op_ge_ii (a b : Int) : op2 .ge (.int a) (.int b) = .ok (.bool (decide (b ≤ a))) := rfl
theorem op_len_t (xs : List D) : op1 .len (.tuple xs) = .ok (.int xs.length) := rfl
theorem op_len_l (xs : List D) : op1 .len (.list xs) = .ok (.int xs.length) := rfl
theorem op_sset (d : D) : op1 .sset d = op1 .sset d := rfl
theorem asInt_i (i : Int) : asInt (.int i) = .ok i := rfl
theorem take1 {n : Nat} {m k : Int} {b : List D} {Q : D × Cs → Prop} (hb : Bx k b) (h0 : 0 < m) (h1 : m < 1073741824) (hk : k < 2 ^ 60)
    (hQ : ∀ v b', 0 ≤ v → v < m → Bx (k + 1) b' → Q (.int v, [b'])) : wp (evC prog (n + 1) 15 [.int m] [b]) Q := by
  obtain ⟨v, b', e, g1, g2, g3⟩ := take_bx (P := prog) rfl (n := n) h0 h1 hb hk
  exact wp_eq e (hQ v b' g1 g2 g3)
theorem of1 {α : Type} {val : α → D} {xs : List α} {n : Nat} {k : Int} {b : List D} {Q : D × Cs → Prop} (hb : Bx k b) (hn : xs ≠ []) (hl : xs.length < 1000000) (hk : k < 2 ^ 60)
    (hQ : ∀ x b', x ∈ xs → Bx (k + 1) b' → Q (val x, [b'])) : wp (evC prog (n + 2) 19 [.list (xs.map val)] [b]) Q := by
  obtain ⟨x, b', hx, e, g⟩ := of_ok (P := prog) rfl rfl (n := n) (A := .list (xs.map val)) (.inl rfl) (by simpa using hn) (by simpa using hl) hb hk
  obtain ⟨y, hy, rfl⟩ := List.mem_map.mp hx
  exact wp_eq e (hQ y b' hy g)
theorem clause1 {A : D} {ss : List Str} {n : Nat} {k : Int} {b : List D} {Q : D × Cs → Prop} (hA : seqOf A = .ok (ss.map .str)) (hb : Bx k b) (hs : ss.length ≤ 10) (hk : k < 2 ^ 59)
    (hQ : ∀ cl b', ClIn ss cl → Bx (k + 10) b' → Q (clD cl, [b'])) : wp (evC prog (n + 2) 23 [A] [b]) Q := by
  obtain ⟨cl, b', e, g1, g2, g3⟩ := clause_ok (P := prog) rfl rfl (n := n) hA hb (by omega)
  exact wp_eq e (hQ cl b' ⟨g1, g2⟩ (g3.mono (by omega)))
theorem cut1 {A : D} {ss : List Str} {n : Nat} {k m : Int} {b : List D} {Q : D × Cs → Prop} (hA : seqOf A = .ok (ss.map .str)) (hb : Bx k b) (hm0 : 0 ≤ m) (hm : m ≤ 4) (hs : ss.length ≤ 10) (hk : k < 2 ^ 50)
    (hQ : ∀ cu b', (∀ c ∈ cu, ClIn ss c) → Bx (k + 50) b' → Q (cuD cu, [b'])) : wp (evC prog (n + 3) 24 [A, .int m] [b]) Q := by
  obtain ⟨cu, b', e, g1, g2⟩ := cut_ok (P := prog) rfl rfl rfl (n := n) hA hb hm0 hm hs hk
  exact wp_eq e (hQ cu b' g1 g2)
/-- draws in a row -/
theorem comp_draw {α β : Type} {enc : β → D} {f : D → Cs → R (Option D × Cs)} {xs : List β} {k : Int} {b : List D} {Q : List D × Cs → Prop} (val : α → D) (Pa : α → Prop) (step : Int) (h0 : 0 ≤ step) (hb : Bx k b)
    (hs : ∀ x ∈ xs, ∀ k' b, k ≤ k' → k' ≤ k + step * xs.length → Bx k' b → wp (f (enc x) [b]) (fun q => ∃ a b', q = (some (val a), [b']) ∧ Pa a ∧ Bx (k' + step) b'))
    (hQ : ∀ (as : List α) b', as.length = xs.length → (∀ a ∈ as, Pa a) → Bx (k + step * xs.length) b' → Q (as.map val, [b'])) : wp (compLoop f (xs.map enc) [b]) Q := by
  refine comp_inv (fun p ys cs => ∃ (as : List α) (b' : List D), ys = as.map val ∧ cs = [b'] ∧ as.length = p.length ∧ (∀ a ∈ as, Pa a) ∧ Bx (k + step * p.length) b') ⟨[], b, rfl, rfl, rfl, by simp, by simpa using hb⟩ (fun p x r ys cs e hI => ?_) (fun ys cs hI => ?_)
  · obtain ⟨as, b', rfl, rfl, hl, ha, hb'⟩ := hI
    have hle : (p.length : Int) ≤ xs.length := by rw [e]; simp; omega
    have hm := Int.mul_le_mul_of_nonneg_left hle h0
    have hp : 0 ≤ step * (p.length : Int) := Int.mul_nonneg h0 (by omega)
    refine wp_mono (hs x (by rw [e]; simp) _ b' (by omega) (by omega) hb') fun q hq => ?_
    obtain ⟨a, b2, rfl, hpa, hb2⟩ := hq
    refine ⟨as ++ [a], b2, by simp, rfl, by simp [hl], ?_, ?_⟩
    · intro z hz
      rcases List.mem_append.mp hz with hz | hz
      · exact ha z hz
      · rw [List.mem_singleton] at hz; rw [hz]; exact hpa
    · have : k + step * ((p ++ [x]).length : Int) = k + step * (p.length : Int) + step := by
        simp only [List.length_append, List.length_singleton]; push_cast; rw [Int.mul_add]; omega
      rw [this]
      exact hb2
  · obtain ⟨as, b', rfl, rfl, hl, ha, hb'⟩ := hI
    exact hQ as b' hl ha hb'
theorem sset1 {l : List (List (Str × Bool))} {ss : List Str} {Q : D → Prop} (h4 : l.length ≤ 4) (hl : ∀ c ∈ l, ClIn ss c) (hQ : ∀ cu : List (List (Str × Bool)), (∀ c ∈ cu, ClIn ss c) → Q (.list (cu.map clD))) : wp (op1 .sset (.list (l.map clD))) Q := by
  obtain ⟨cu, e, h⟩ := sset_cl h4 hl
  exact wp_eq e (hQ cu h)
theorem len_cl (cl : List (Str × Bool)) : op1 .len (clD cl) = .ok (.int cl.length) := by simp only [clD, op_len_t, List.length_map]
def ar2 : List Str := ["b", "m"]
def ar3 : List Str := ["b", "m", "x"]
theorem chart1 {n : Nat} {k : Int} {b : List D} {Q : D × Cs → Prop} (hb : Bx k b) (hk : k < 2 ^ 50)
    (hQ : ∀ ss cu b', (ss = ar2 ∨ ss = ar3) → (∀ c ∈ cu, ClIn ss c) → Bx (k + 50) b' → Q (.tuple [spD ss, cuD cu], [b'])) : wp (evC prog (n + 4) 25 [.int 3] [b]) Q := by
  refine c_law_chart ?_
  simp only [we_lit, we_gl, we_var, we_pk, we_nil, consK_t, we_cons, we_tup, lstK_t, we_lst, we_o1, we_o2, we_and, we_or, we_ife, we_isi, we_sl, we_nob, we_comp, we_rng1, we_rng2, we_enum, we_zip, callK_t, we_call, callkK_t, we_callk, calltK_l, we_callt, c_step, l_step, k_nx, k_rt, k_bk, k_ct, t_nx, t_ct, t_bk, t_rt, ws_nop, ws_seq, ws_ret, ws_retc, ws_retN, ws_asg, celK_l, ws_cel, parK_t, ws_par, ws_unp, ws_ifs, ws_fors, ws_expr, ws_app, ws_setx, ws_brk, ws_cont, ws_frz, getV_v, getV_s, getC_c, getC_s, bindTg_nm, bindTg_t, bindTg_l, bindAll_n, bindAll_c, cellsAt_n, cellsAt_c, ownAll_n, putCells_n, putCells_c, out_rt, out_nx, wp_ok, wp_some, wp_bind, GG_cl, GG_co, List.set_cons_zero, List.set_cons_succ, List.getElem?_cons_zero, List.getElem?_cons_succ, List.map_cons, List.map_nil, if_true, if_false, Bool.false_eq_true, tru_b, op_nt, op_neg, seqOf_l, seqOf_t, itemsOf_l, itemsOf_t, lends, owned, hasList, Bool.not_false, Bool.not_true, Bool.or_true, Bool.true_or, Bool.or_false, Bool.false_or, Bool.and_true, Bool.true_and, List.all_nil, List.all_cons, true_and, and_true, List.take_zero, List.take_succ_cons, List.take_nil, noCel, isCel, List.length_cons, List.length_nil, List.length_append, List.nil_append, List.cons_append, consts, permute, allM, R.ofO_some, R.ok_bind, List.append_assoc, Nat.zero_add, b_law_chart]
  refine take1 hb (by decide) (by decide) (by omega) fun v b1 hv0 hv1 hb1 => ?_
  have key : ∀ j : Int, (j = 2 ∨ j = 3) → ∃ ss, (ss = ar2 ∨ ss = ar3) ∧ slD none (some j) (.list [.str (Str.ofString "m"), .str (Str.ofString "b"), .str (Str.ofString "x"), .str (Str.ofString "aa"), .str (Str.ofString "k")]) >>= op1 .srt = .ok (.list (ss.map .str)) := by
    intro j hj
    rcases hj with rfl | rfl
    · exact ⟨ar2, .inl rfl, by kernel_rfl⟩
    · exact ⟨ar3, .inr rfl, by kernel_rfl⟩
  obtain ⟨ss, hss, e⟩ := key (3 - if decide (v = 0) = true then 1 else 0) (by by_cases h : v = 0 <;> simp [h])
  have hlen : ss.length ≤ 3 := by rcases hss with rfl | rfl <;> decide
  simp only [we_lit, we_gl, we_var, we_pk, we_nil, consK_t, we_cons, we_tup, lstK_t, we_lst, we_o1, we_o2, we_and, we_or, we_ife, we_isi, we_sl, we_nob, we_comp, we_rng1, we_rng2, we_enum, we_zip, callK_t, we_call, callkK_t, we_callk, calltK_l, we_callt, c_step, l_step, k_nx, k_rt, k_bk, k_ct, t_nx, t_ct, t_bk, t_rt, ws_nop, ws_seq, ws_ret, ws_retc, ws_retN, ws_asg, celK_l, ws_cel, parK_t, ws_par, ws_unp, ws_ifs, ws_fors, ws_expr, ws_app, ws_setx, ws_brk, ws_cont, ws_frz, getV_v, getV_s, getC_c, getC_s, bindTg_nm, bindTg_t, bindTg_l, bindAll_n, bindAll_c, cellsAt_n, cellsAt_c, ownAll_n, putCells_n, putCells_c, out_rt, out_nx, wp_ok, wp_some, wp_bind, GG_cl, GG_co, List.set_cons_zero, List.set_cons_succ, List.getElem?_cons_zero, List.getElem?_cons_succ, List.map_cons, List.map_nil, if_true, if_false, Bool.false_eq_true, tru_b, op_nt, op_neg, seqOf_l, seqOf_t, itemsOf_l, itemsOf_t, lends, owned, hasList, Bool.not_false, Bool.not_true, Bool.or_true, Bool.true_or, Bool.or_false, Bool.false_or, Bool.and_true, Bool.true_and, List.all_nil, List.all_cons, true_and, and_true, List.take_zero, List.take_succ_cons, List.take_nil, noCel, isCel, List.length_cons, List.length_nil, List.length_append, List.nil_append, List.cons_append, consts, permute, allM, R.ofO_some, R.ok_bind, List.append_assoc, Nat.zero_add, op_eq_ii, op_int_b, op_sub_ii, evE.bnd, hb1.nl]
  rw [← wp_bind (f := op1 .srt)]
  refine wp_eq e ?_
  refine take1 hb1 (by decide) (by decide) (by omega) fun w b2 hw0 hw1 hb2 => ?_
  simp only [we_lit, we_gl, we_var, we_pk, we_nil, consK_t, we_cons, we_tup, lstK_t, we_lst, we_o1, we_o2, we_and, we_or, we_ife, we_isi, we_sl, we_nob, we_comp, we_rng1, we_rng2, we_enum, we_zip, callK_t, we_call, callkK_t, we_callk, calltK_l, we_callt, c_step, l_step, k_nx, k_rt, k_bk, k_ct, t_nx, t_ct, t_bk, t_rt, ws_nop, ws_seq, ws_ret, ws_retc, ws_retN, ws_asg, celK_l, ws_cel, parK_t, ws_par, ws_unp, ws_ifs, ws_fors, ws_expr, ws_app, ws_setx, ws_brk, ws_cont, ws_frz, getV_v, getV_s, getC_c, getC_s, bindTg_nm, bindTg_t, bindTg_l, bindAll_n, bindAll_c, cellsAt_n, cellsAt_c, ownAll_n, putCells_n, putCells_c, out_rt, out_nx, wp_ok, wp_some, wp_bind, GG_cl, GG_co, List.set_cons_zero, List.set_cons_succ, List.getElem?_cons_zero, List.getElem?_cons_succ, List.map_cons, List.map_nil, if_true, if_false, Bool.false_eq_true, tru_b, op_nt, op_neg, seqOf_l, seqOf_t, itemsOf_l, itemsOf_t, lends, owned, hasList, Bool.not_false, Bool.not_true, Bool.or_true, Bool.true_or, Bool.or_false, Bool.false_or, Bool.and_true, Bool.true_and, List.all_nil, List.all_cons, true_and, and_true, List.take_zero, List.take_succ_cons, List.take_nil, noCel, isCel, List.length_cons, List.length_nil, List.length_append, List.nil_append, List.cons_append, consts, permute, allM, R.ofO_some, R.ok_bind, List.append_assoc, Nat.zero_add, asInt_i, hb2.nl]
  refine ⟨by simp only [sz]; omega, ?_⟩
  refine comp_draw clD (ClIn ss) 10 (by decide) hb2 (fun x _ k' b' h1 h2 hb' => ?_) (fun cls b3 hl hc hb3 => ?_)
  · simp only [we_lit, we_gl, we_var, we_pk, we_nil, consK_t, we_cons, we_tup, lstK_t, we_lst, we_o1, we_o2, we_and, we_or, we_ife, we_isi, we_sl, we_nob, we_comp, we_rng1, we_rng2, we_enum, we_zip, callK_t, we_call, callkK_t, we_callk, calltK_l, we_callt, c_step, l_step, k_nx, k_rt, k_bk, k_ct, t_nx, t_ct, t_bk, t_rt, ws_nop, ws_seq, ws_ret, ws_retc, ws_retN, ws_asg, celK_l, ws_cel, parK_t, ws_par, ws_unp, ws_ifs, ws_fors, ws_expr, ws_app, ws_setx, ws_brk, ws_cont, ws_frz, getV_v, getV_s, getC_c, getC_s, bindTg_nm, bindTg_t, bindTg_l, bindAll_n, bindAll_c, cellsAt_n, cellsAt_c, ownAll_n, putCells_n, putCells_c, out_rt, out_nx, wp_ok, wp_some, wp_bind, GG_cl, GG_co, List.set_cons_zero, List.set_cons_succ, List.getElem?_cons_zero, List.getElem?_cons_succ, List.map_cons, List.map_nil, if_true, if_false, Bool.false_eq_true, tru_b, op_nt, op_neg, seqOf_l, seqOf_t, itemsOf_l, itemsOf_t, lends, owned, hasList, Bool.not_false, Bool.not_true, Bool.or_true, Bool.true_or, Bool.or_false, Bool.false_or, Bool.and_true, Bool.true_and, List.all_nil, List.all_cons, true_and, and_true, List.take_zero, List.take_succ_cons, List.take_nil, noCel, isCel, List.length_cons, List.length_nil, List.length_append, List.nil_append, List.cons_append, consts, permute, allM, R.ofO_some, R.ok_bind, List.append_assoc, Nat.zero_add]
    refine clause1 (ss := ss) rfl hb' (by omega) (by simp only [List.length_range] at h2; omega) fun cl b4 hcl hb4 => ?_
    simp only [we_lit, we_gl, we_var, we_pk, we_nil, consK_t, we_cons, we_tup, lstK_t, we_lst, we_o1, we_o2, we_and, we_or, we_ife, we_isi, we_sl, we_nob, we_comp, we_rng1, we_rng2, we_enum, we_zip, callK_t, we_call, callkK_t, we_callk, calltK_l, we_callt, c_step, l_step, k_nx, k_rt, k_bk, k_ct, t_nx, t_ct, t_bk, t_rt, ws_nop, ws_seq, ws_ret, ws_retc, ws_retN, ws_asg, celK_l, ws_cel, parK_t, ws_par, ws_unp, ws_ifs, ws_fors, ws_expr, ws_app, ws_setx, ws_brk, ws_cont, ws_frz, getV_v, getV_s, getC_c, getC_s, bindTg_nm, bindTg_t, bindTg_l, bindAll_n, bindAll_c, cellsAt_n, cellsAt_c, ownAll_n, putCells_n, putCells_c, out_rt, out_nx, wp_ok, wp_some, wp_bind, GG_cl, GG_co, List.set_cons_zero, List.set_cons_succ, List.getElem?_cons_zero, List.getElem?_cons_succ, List.map_cons, List.map_nil, if_true, if_false, Bool.false_eq_true, tru_b, op_nt, op_neg, seqOf_l, seqOf_t, itemsOf_l, itemsOf_t, lends, owned, hasList, Bool.not_false, Bool.not_true, Bool.or_true, Bool.true_or, Bool.or_false, Bool.false_or, Bool.and_true, Bool.true_and, List.all_nil, List.all_cons, true_and, and_true, List.take_zero, List.take_succ_cons, List.take_nil, noCel, isCel, List.length_cons, List.length_nil, List.length_append, List.nil_append, List.cons_append, consts, permute, allM, R.ofO_some, R.ok_bind, List.append_assoc, Nat.zero_add, hb4.nl, cl_nolist]
    exact ⟨cl, b4, rfl, hcl, hb4⟩
  · simp only [List.length_range] at hl hb3
    simp only [we_lit, we_gl, we_var, we_pk, we_nil, consK_t, we_cons, we_tup, lstK_t, we_lst, we_o1, we_o2, we_and, we_or, we_ife, we_isi, we_sl, we_nob, we_comp, we_rng1, we_rng2, we_enum, we_zip, callK_t, we_call, callkK_t, we_callk, calltK_l, we_callt, c_step, l_step, k_nx, k_rt, k_bk, k_ct, t_nx, t_ct, t_bk, t_rt, ws_nop, ws_seq, ws_ret, ws_retc, ws_retN, ws_asg, celK_l, ws_cel, parK_t, ws_par, ws_unp, ws_ifs, ws_fors, ws_expr, ws_app, ws_setx, ws_brk, ws_cont, ws_frz, getV_v, getV_s, getC_c, getC_s, bindTg_nm, bindTg_t, bindTg_l, bindAll_n, bindAll_c, cellsAt_n, cellsAt_c, ownAll_n, putCells_n, putCells_c, out_rt, out_nx, wp_ok, wp_some, wp_bind, GG_cl, GG_co, List.set_cons_zero, List.set_cons_succ, List.getElem?_cons_zero, List.getElem?_cons_succ, List.map_cons, List.map_nil, if_true, if_false, Bool.false_eq_true, tru_b, op_nt, op_neg, seqOf_l, seqOf_t, itemsOf_l, itemsOf_t, lends, owned, hasList, Bool.not_false, Bool.not_true, Bool.or_true, Bool.true_or, Bool.or_false, Bool.false_or, Bool.and_true, Bool.true_and, List.all_nil, List.all_cons, true_and, and_true, List.take_zero, List.take_succ_cons, List.take_nil, noCel, isCel, List.length_cons, List.length_nil, List.length_append, List.nil_append, List.cons_append, consts, permute, allM, R.ofO_some, R.ok_bind, List.append_assoc, Nat.zero_add, op_tup_l]
    refine comp_filter (fun cl => decide (1 < (cl.length : Int))) clD (fun cl _ => ?_) ?_
    · simp only [we_lit, we_gl, we_var, we_pk, we_nil, consK_t, we_cons, we_tup, lstK_t, we_lst, we_o1, we_o2, we_and, we_or, we_ife, we_isi, we_sl, we_nob, we_comp, we_rng1, we_rng2, we_enum, we_zip, callK_t, we_call, callkK_t, we_callk, calltK_l, we_callt, c_step, l_step, k_nx, k_rt, k_bk, k_ct, t_nx, t_ct, t_bk, t_rt, ws_nop, ws_seq, ws_ret, ws_retc, ws_retN, ws_asg, celK_l, ws_cel, parK_t, ws_par, ws_unp, ws_ifs, ws_fors, ws_expr, ws_app, ws_setx, ws_brk, ws_cont, ws_frz, getV_v, getV_s, getC_c, getC_s, bindTg_nm, bindTg_t, bindTg_l, bindAll_n, bindAll_c, cellsAt_n, cellsAt_c, ownAll_n, putCells_n, putCells_c, out_rt, out_nx, wp_ok, wp_some, wp_bind, GG_cl, GG_co, List.set_cons_zero, List.set_cons_succ, List.getElem?_cons_zero, List.getElem?_cons_succ, List.map_cons, List.map_nil, if_true, if_false, Bool.false_eq_true, tru_b, op_nt, op_neg, seqOf_l, seqOf_t, itemsOf_l, itemsOf_t, lends, owned, hasList, Bool.not_false, Bool.not_true, Bool.or_true, Bool.true_or, Bool.or_false, Bool.false_or, Bool.and_true, Bool.true_and, List.all_nil, List.all_cons, true_and, and_true, List.take_zero, List.take_succ_cons, List.take_nil, noCel, isCel, List.length_cons, List.length_nil, List.length_append, List.nil_append, List.cons_append, consts, permute, allM, R.ofO_some, R.ok_bind, List.append_assoc, Nat.zero_add, len_cl, op_gt_ii]
      cases decide (1 < (cl.length : Int)) <;> simp
    · refine sset1 (ss := ss) (Nat.le_trans (List.length_filter_le _ _) (by omega)) (fun c hcc => hc c ((List.mem_filter.mp hcc).1)) fun cu hcu => ?_
      simp only [we_lit, we_gl, we_var, we_pk, we_nil, consK_t, we_cons, we_tup, lstK_t, we_lst, we_o1, we_o2, we_and, we_or, we_ife, we_isi, we_sl, we_nob, we_comp, we_rng1, we_rng2, we_enum, we_zip, callK_t, we_call, callkK_t, we_callk, calltK_l, we_callt, c_step, l_step, k_nx, k_rt, k_bk, k_ct, t_nx, t_ct, t_bk, t_rt, ws_nop, ws_seq, ws_ret, ws_retc, ws_retN, ws_asg, celK_l, ws_cel, parK_t, ws_par, ws_unp, ws_ifs, ws_fors, ws_expr, ws_app, ws_setx, ws_brk, ws_cont, ws_frz, getV_v, getV_s, getC_c, getC_s, bindTg_nm, bindTg_t, bindTg_l, bindAll_n, bindAll_c, cellsAt_n, cellsAt_c, ownAll_n, putCells_n, putCells_c, out_rt, out_nx, wp_ok, wp_some, wp_bind, GG_cl, GG_co, List.set_cons_zero, List.set_cons_succ, List.getElem?_cons_zero, List.getElem?_cons_succ, List.map_cons, List.map_nil, if_true, if_false, Bool.false_eq_true, tru_b, op_nt, op_neg, seqOf_l, seqOf_t, itemsOf_l, itemsOf_t, lends, owned, hasList, Bool.not_false, Bool.not_true, Bool.or_true, Bool.true_or, Bool.or_false, Bool.false_or, Bool.and_true, Bool.true_and, List.all_nil, List.all_cons, true_and, and_true, List.take_zero, List.take_succ_cons, List.take_nil, noCel, isCel, List.length_cons, List.length_nil, List.length_append, List.nil_append, List.cons_append, consts, permute, allM, R.ofO_some, R.ok_bind, List.append_assoc, Nat.zero_add, op_tup_l]
      exact hQ ss cu b3 hss hcu (hb3.mono (by omega))
/-- the sorts of deeds that are drawn -/
def six : List Str := ["way", "way", "end", "give", "swap", "vest", "charge"]
theorem ne_ss (a b : Str) : op2 .ne (.str a) (.str b) = .ok (.bool (!decide (a = b))) := op_ne_ss a b
theorem deed1 {A : D} {ss : List Str} {n : Nat} {k : Int} {b : List D} {Q : D × Cs → Prop} (hA : seqOf A = .ok (ss.map .str)) (hb : Bx k b) (hs : ss.length ≤ 10) (hk : k < 2 ^ 50 - 200)
    (hQ : ∀ (d : Deed) b', Bx (k + 110) b' → Q (d.dat, [b'])) : wp (evC prog (n + 4) 26 [A, .list (six.map .str)] [b]) Q := by
  refine c_law_deed ?_
  simp only [we_lit, we_gl, we_var, we_pk, we_nil, consK_t, we_cons, we_tup, lstK_t, we_lst, we_o1, we_o2, we_and, we_or, we_ife, we_isi, we_sl, we_nob, we_comp, we_rng1, we_rng2, we_enum, we_zip, callK_t, we_call, callkK_t, we_callk, calltK_l, we_callt, c_step, l_step, k_nx, k_rt, k_bk, k_ct, t_nx, t_ct, t_bk, t_rt, ws_nop, ws_seq, ws_ret, ws_retc, ws_retN, ws_asg, celK_l, ws_cel, parK_t, ws_par, ws_unp, ws_ifs, ws_fors, ws_expr, ws_app, ws_setx, ws_brk, ws_cont, ws_frz, getV_v, getV_s, getC_c, getC_s, bindTg_nm, bindTg_t, bindTg_l, bindAll_n, bindAll_c, cellsAt_n, cellsAt_c, ownAll_n, putCells_n, putCells_c, out_rt, out_nx, wp_ok, wp_some, wp_bind, GG_cl, GG_co, List.set_cons_zero, List.set_cons_succ, List.getElem?_cons_zero, List.getElem?_cons_succ, List.map_cons, List.map_nil, if_true, if_false, Bool.false_eq_true, tru_b, op_nt, op_neg, seqOf_l, seqOf_t, itemsOf_l, itemsOf_t, lends, owned, hasList, Bool.not_false, Bool.not_true, Bool.or_true, Bool.true_or, Bool.or_false, Bool.false_or, Bool.and_true, Bool.true_and, List.all_nil, List.all_cons, true_and, and_true, List.take_zero, List.take_succ_cons, List.take_nil, noCel, isCel, List.length_cons, List.length_nil, List.length_append, List.nil_append, List.cons_append, consts, permute, allM, R.ofO_some, R.ok_bind, List.append_assoc, Nat.zero_add, b_law_deed]
  refine of1 (val := PyData.str) hb (by decide) (by decide) (by omega) fun so b1 hso hb1 => ?_
  simp only [we_lit, we_gl, we_var, we_pk, we_nil, consK_t, we_cons, we_tup, lstK_t, we_lst, we_o1, we_o2, we_and, we_or, we_ife, we_isi, we_sl, we_nob, we_comp, we_rng1, we_rng2, we_enum, we_zip, callK_t, we_call, callkK_t, we_callk, calltK_l, we_callt, c_step, l_step, k_nx, k_rt, k_bk, k_ct, t_nx, t_ct, t_bk, t_rt, ws_nop, ws_seq, ws_ret, ws_retc, ws_retN, ws_asg, celK_l, ws_cel, parK_t, ws_par, ws_unp, ws_ifs, ws_fors, ws_expr, ws_app, ws_setx, ws_brk, ws_cont, ws_frz, getV_v, getV_s, getC_c, getC_s, bindTg_nm, bindTg_t, bindTg_l, bindAll_n, bindAll_c, cellsAt_n, cellsAt_c, ownAll_n, putCells_n, putCells_c, out_rt, out_nx, wp_ok, wp_some, wp_bind, GG_cl, GG_co, List.set_cons_zero, List.set_cons_succ, List.getElem?_cons_zero, List.getElem?_cons_succ, List.map_cons, List.map_nil, if_true, if_false, Bool.false_eq_true, tru_b, op_nt, op_neg, seqOf_l, seqOf_t, itemsOf_l, itemsOf_t, lends, owned, hasList, Bool.not_false, Bool.not_true, Bool.or_true, Bool.true_or, Bool.or_false, Bool.false_or, Bool.and_true, Bool.true_and, List.all_nil, List.all_cons, true_and, and_true, List.take_zero, List.take_succ_cons, List.take_nil, noCel, isCel, List.length_cons, List.length_nil, List.length_append, List.nil_append, List.cons_append, consts, permute, allM, R.ofO_some, R.ok_bind, List.append_assoc, Nat.zero_add, hb1.nl]
  refine cut1 hA hb1 (by decide) (by decide) hs (by omega) fun cu b2 hcu hb2 => ?_
  simp only [we_lit, we_gl, we_var, we_pk, we_nil, consK_t, we_cons, we_tup, lstK_t, we_lst, we_o1, we_o2, we_and, we_or, we_ife, we_isi, we_sl, we_nob, we_comp, we_rng1, we_rng2, we_enum, we_zip, callK_t, we_call, callkK_t, we_callk, calltK_l, we_callt, c_step, l_step, k_nx, k_rt, k_bk, k_ct, t_nx, t_ct, t_bk, t_rt, ws_nop, ws_seq, ws_ret, ws_retc, ws_retN, ws_asg, celK_l, ws_cel, parK_t, ws_par, ws_unp, ws_ifs, ws_fors, ws_expr, ws_app, ws_setx, ws_brk, ws_cont, ws_frz, getV_v, getV_s, getC_c, getC_s, bindTg_nm, bindTg_t, bindTg_l, bindAll_n, bindAll_c, cellsAt_n, cellsAt_c, ownAll_n, putCells_n, putCells_c, out_rt, out_nx, wp_ok, wp_some, wp_bind, GG_cl, GG_co, List.set_cons_zero, List.set_cons_succ, List.getElem?_cons_zero, List.getElem?_cons_succ, List.map_cons, List.map_nil, if_true, if_false, Bool.false_eq_true, tru_b, op_nt, op_neg, seqOf_l, seqOf_t, itemsOf_l, itemsOf_t, lends, owned, hasList, Bool.not_false, Bool.not_true, Bool.or_true, Bool.true_or, Bool.or_false, Bool.false_or, Bool.and_true, Bool.true_and, List.all_nil, List.all_cons, true_and, and_true, List.take_zero, List.take_succ_cons, List.take_nil, noCel, isCel, List.length_cons, List.length_nil, List.length_append, List.nil_append, List.cons_append, consts, permute, allM, R.ofO_some, R.ok_bind, List.append_assoc, Nat.zero_add, hb2.nl, (flt_cu cu).nl]
  refine of1 (val := PyData.str) (xs := [Str.ofString "cy", Str.ofString "ann", Str.ofString "bob"]) hb2 (by decide) (by decide) (by omega) fun mi b3 hmi hb3 => ?_
  simp only [we_lit, we_gl, we_var, we_pk, we_nil, consK_t, we_cons, we_tup, lstK_t, we_lst, we_o1, we_o2, we_and, we_or, we_ife, we_isi, we_sl, we_nob, we_comp, we_rng1, we_rng2, we_enum, we_zip, callK_t, we_call, callkK_t, we_callk, calltK_l, we_callt, c_step, l_step, k_nx, k_rt, k_bk, k_ct, t_nx, t_ct, t_bk, t_rt, ws_nop, ws_seq, ws_ret, ws_retc, ws_retN, ws_asg, celK_l, ws_cel, parK_t, ws_par, ws_unp, ws_ifs, ws_fors, ws_expr, ws_app, ws_setx, ws_brk, ws_cont, ws_frz, getV_v, getV_s, getC_c, getC_s, bindTg_nm, bindTg_t, bindTg_l, bindAll_n, bindAll_c, cellsAt_n, cellsAt_c, ownAll_n, putCells_n, putCells_c, out_rt, out_nx, wp_ok, wp_some, wp_bind, GG_cl, GG_co, List.set_cons_zero, List.set_cons_succ, List.getElem?_cons_zero, List.getElem?_cons_succ, List.map_cons, List.map_nil, if_true, if_false, Bool.false_eq_true, tru_b, op_nt, op_neg, seqOf_l, seqOf_t, itemsOf_l, itemsOf_t, lends, owned, hasList, Bool.not_false, Bool.not_true, Bool.or_true, Bool.true_or, Bool.or_false, Bool.false_or, Bool.and_true, Bool.true_and, List.all_nil, List.all_cons, true_and, and_true, List.take_zero, List.take_succ_cons, List.take_nil, noCel, isCel, List.length_cons, List.length_nil, List.length_append, List.nil_append, List.cons_append, consts, permute, allM, R.ofO_some, R.ok_bind, List.append_assoc, Nat.zero_add, hb3.nl]
  refine comp_filter (enc := PyData.str) (xs := [Str.ofString "cy", Str.ofString "ann", Str.ofString "bob", Str.ofString "eve"]) (fun z => !decide (z = mi)) PyData.str (fun z _ => ?_) ?_
  · simp only [we_lit, we_gl, we_var, we_pk, we_nil, consK_t, we_cons, we_tup, lstK_t, we_lst, we_o1, we_o2, we_and, we_or, we_ife, we_isi, we_sl, we_nob, we_comp, we_rng1, we_rng2, we_enum, we_zip, callK_t, we_call, callkK_t, we_callk, calltK_l, we_callt, c_step, l_step, k_nx, k_rt, k_bk, k_ct, t_nx, t_ct, t_bk, t_rt, ws_nop, ws_seq, ws_ret, ws_retc, ws_retN, ws_asg, celK_l, ws_cel, parK_t, ws_par, ws_unp, ws_ifs, ws_fors, ws_expr, ws_app, ws_setx, ws_brk, ws_cont, ws_frz, getV_v, getV_s, getC_c, getC_s, bindTg_nm, bindTg_t, bindTg_l, bindAll_n, bindAll_c, cellsAt_n, cellsAt_c, ownAll_n, putCells_n, putCells_c, out_rt, out_nx, wp_ok, wp_some, wp_bind, GG_cl, GG_co, List.set_cons_zero, List.set_cons_succ, List.getElem?_cons_zero, List.getElem?_cons_succ, List.map_cons, List.map_nil, if_true, if_false, Bool.false_eq_true, tru_b, op_nt, op_neg, seqOf_l, seqOf_t, itemsOf_l, itemsOf_t, lends, owned, hasList, Bool.not_false, Bool.not_true, Bool.or_true, Bool.true_or, Bool.or_false, Bool.false_or, Bool.and_true, Bool.true_and, List.all_nil, List.all_cons, true_and, and_true, List.take_zero, List.take_succ_cons, List.take_nil, noCel, isCel, List.length_cons, List.length_nil, List.length_append, List.nil_append, List.cons_append, consts, permute, allM, R.ofO_some, R.ok_bind, List.append_assoc, Nat.zero_add, op_ne_ss]
    cases decide (z = mi) <;> simp
  refine of1 (val := PyData.str) hb3 ?ne (Nat.lt_of_le_of_lt (List.length_filter_le _ _) (by decide)) (by omega) fun it b4 hit hb4 => ?_
  case ne =>
    simp only [List.mem_cons, List.not_mem_nil, or_false] at hmi
    rcases hmi with rfl | rfl | rfl <;> decide
  simp only [we_lit, we_gl, we_var, we_pk, we_nil, consK_t, we_cons, we_tup, lstK_t, we_lst, we_o1, we_o2, we_and, we_or, we_ife, we_isi, we_sl, we_nob, we_comp, we_rng1, we_rng2, we_enum, we_zip, callK_t, we_call, callkK_t, we_callk, calltK_l, we_callt, c_step, l_step, k_nx, k_rt, k_bk, k_ct, t_nx, t_ct, t_bk, t_rt, ws_nop, ws_seq, ws_ret, ws_retc, ws_retN, ws_asg, celK_l, ws_cel, parK_t, ws_par, ws_unp, ws_ifs, ws_fors, ws_expr, ws_app, ws_setx, ws_brk, ws_cont, ws_frz, getV_v, getV_s, getC_c, getC_s, bindTg_nm, bindTg_t, bindTg_l, bindAll_n, bindAll_c, cellsAt_n, cellsAt_c, ownAll_n, putCells_n, putCells_c, out_rt, out_nx, wp_ok, wp_some, wp_bind, GG_cl, GG_co, List.set_cons_zero, List.set_cons_succ, List.getElem?_cons_zero, List.getElem?_cons_succ, List.map_cons, List.map_nil, if_true, if_false, Bool.false_eq_true, tru_b, op_nt, op_neg, seqOf_l, seqOf_t, itemsOf_l, itemsOf_t, lends, owned, hasList, Bool.not_false, Bool.not_true, Bool.or_true, Bool.true_or, Bool.or_false, Bool.false_or, Bool.and_true, Bool.true_and, List.all_nil, List.all_cons, true_and, and_true, List.take_zero, List.take_succ_cons, List.take_nil, noCel, isCel, List.length_cons, List.length_nil, List.length_append, List.nil_append, List.cons_append, consts, permute, allM, R.ofO_some, R.ok_bind, List.append_assoc, Nat.zero_add, hb4.nl]
  have dec : ∀ x y : String, decide (Str.ofString x = Str.ofString y) = decide (x = y) := fun x y => decide_eq_decide.mpr str_inj
  simp only [six, List.mem_cons, List.not_mem_nil, or_false] at hso
  rcases hso with rfl | rfl | rfl | rfl | rfl | rfl | rfl
  · simp only [we_lit, we_gl, we_var, we_pk, we_nil, consK_t, we_cons, we_tup, lstK_t, we_lst, we_o1, we_o2, we_and, we_or, we_ife, we_isi, we_sl, we_nob, we_comp, we_rng1, we_rng2, we_enum, we_zip, callK_t, we_call, callkK_t, we_callk, calltK_l, we_callt, c_step, l_step, k_nx, k_rt, k_bk, k_ct, t_nx, t_ct, t_bk, t_rt, ws_nop, ws_seq, ws_ret, ws_retc, ws_retN, ws_asg, celK_l, ws_cel, parK_t, ws_par, ws_unp, ws_ifs, ws_fors, ws_expr, ws_app, ws_setx, ws_brk, ws_cont, ws_frz, getV_v, getV_s, getC_c, getC_s, bindTg_nm, bindTg_t, bindTg_l, bindAll_n, bindAll_c, cellsAt_n, cellsAt_c, ownAll_n, putCells_n, putCells_c, out_rt, out_nx, wp_ok, wp_some, wp_bind, GG_cl, GG_co, List.set_cons_zero, List.set_cons_succ, List.getElem?_cons_zero, List.getElem?_cons_succ, List.map_cons, List.map_nil, if_true, if_false, Bool.false_eq_true, tru_b, op_nt, op_neg, seqOf_l, seqOf_t, itemsOf_l, itemsOf_t, lends, owned, hasList, Bool.not_false, Bool.not_true, Bool.or_true, Bool.true_or, Bool.or_false, Bool.false_or, Bool.and_true, Bool.true_and, List.all_nil, List.all_cons, true_and, and_true, List.take_zero, List.take_succ_cons, List.take_nil, noCel, isCel, List.length_cons, List.length_nil, List.length_append, List.nil_append, List.cons_append, consts, permute, allM, R.ofO_some, R.ok_bind, List.append_assoc, Nat.zero_add, op_isin_t, op_eq_ss, List.any_cons, List.any_nil, eqv_ss, dec, String.reduceEq, decide_false, decide_true]
    refine cut1 hA hb4 (by decide) (by decide) hs (by omega) fun cu2 b5 _ hb5 => ?_
    simp only [we_lit, we_gl, we_var, we_pk, we_nil, consK_t, we_cons, we_tup, lstK_t, we_lst, we_o1, we_o2, we_and, we_or, we_ife, we_isi, we_sl, we_nob, we_comp, we_rng1, we_rng2, we_enum, we_zip, callK_t, we_call, callkK_t, we_callk, calltK_l, we_callt, c_step, l_step, k_nx, k_rt, k_bk, k_ct, t_nx, t_ct, t_bk, t_rt, ws_nop, ws_seq, ws_ret, ws_retc, ws_retN, ws_asg, celK_l, ws_cel, parK_t, ws_par, ws_unp, ws_ifs, ws_fors, ws_expr, ws_app, ws_setx, ws_brk, ws_cont, ws_frz, getV_v, getV_s, getC_c, getC_s, bindTg_nm, bindTg_t, bindTg_l, bindAll_n, bindAll_c, cellsAt_n, cellsAt_c, ownAll_n, putCells_n, putCells_c, out_rt, out_nx, wp_ok, wp_some, wp_bind, GG_cl, GG_co, List.set_cons_zero, List.set_cons_succ, List.getElem?_cons_zero, List.getElem?_cons_succ, List.map_cons, List.map_nil, if_true, if_false, Bool.false_eq_true, tru_b, op_nt, op_neg, seqOf_l, seqOf_t, itemsOf_l, itemsOf_t, lends, owned, hasList, Bool.not_false, Bool.not_true, Bool.or_true, Bool.true_or, Bool.or_false, Bool.false_or, Bool.and_true, Bool.true_and, List.all_nil, List.all_cons, true_and, and_true, List.take_zero, List.take_succ_cons, List.take_nil, noCel, isCel, List.length_cons, List.length_nil, List.length_append, List.nil_append, List.cons_append, consts, permute, allM, R.ofO_some, R.ok_bind, List.append_assoc, Nat.zero_add, hb5.nl]
    exact hQ (.way cu cu2) b5 (hb5.mono (by omega))
  · simp only [we_lit, we_gl, we_var, we_pk, we_nil, consK_t, we_cons, we_tup, lstK_t, we_lst, we_o1, we_o2, we_and, we_or, we_ife, we_isi, we_sl, we_nob, we_comp, we_rng1, we_rng2, we_enum, we_zip, callK_t, we_call, callkK_t, we_callk, calltK_l, we_callt, c_step, l_step, k_nx, k_rt, k_bk, k_ct, t_nx, t_ct, t_bk, t_rt, ws_nop, ws_seq, ws_ret, ws_retc, ws_retN, ws_asg, celK_l, ws_cel, parK_t, ws_par, ws_unp, ws_ifs, ws_fors, ws_expr, ws_app, ws_setx, ws_brk, ws_cont, ws_frz, getV_v, getV_s, getC_c, getC_s, bindTg_nm, bindTg_t, bindTg_l, bindAll_n, bindAll_c, cellsAt_n, cellsAt_c, ownAll_n, putCells_n, putCells_c, out_rt, out_nx, wp_ok, wp_some, wp_bind, GG_cl, GG_co, List.set_cons_zero, List.set_cons_succ, List.getElem?_cons_zero, List.getElem?_cons_succ, List.map_cons, List.map_nil, if_true, if_false, Bool.false_eq_true, tru_b, op_nt, op_neg, seqOf_l, seqOf_t, itemsOf_l, itemsOf_t, lends, owned, hasList, Bool.not_false, Bool.not_true, Bool.or_true, Bool.true_or, Bool.or_false, Bool.false_or, Bool.and_true, Bool.true_and, List.all_nil, List.all_cons, true_and, and_true, List.take_zero, List.take_succ_cons, List.take_nil, noCel, isCel, List.length_cons, List.length_nil, List.length_append, List.nil_append, List.cons_append, consts, permute, allM, R.ofO_some, R.ok_bind, List.append_assoc, Nat.zero_add, op_isin_t, op_eq_ss, List.any_cons, List.any_nil, eqv_ss, dec, String.reduceEq, decide_false, decide_true]
    refine cut1 hA hb4 (by decide) (by decide) hs (by omega) fun cu2 b5 _ hb5 => ?_
    simp only [we_lit, we_gl, we_var, we_pk, we_nil, consK_t, we_cons, we_tup, lstK_t, we_lst, we_o1, we_o2, we_and, we_or, we_ife, we_isi, we_sl, we_nob, we_comp, we_rng1, we_rng2, we_enum, we_zip, callK_t, we_call, callkK_t, we_callk, calltK_l, we_callt, c_step, l_step, k_nx, k_rt, k_bk, k_ct, t_nx, t_ct, t_bk, t_rt, ws_nop, ws_seq, ws_ret, ws_retc, ws_retN, ws_asg, celK_l, ws_cel, parK_t, ws_par, ws_unp, ws_ifs, ws_fors, ws_expr, ws_app, ws_setx, ws_brk, ws_cont, ws_frz, getV_v, getV_s, getC_c, getC_s, bindTg_nm, bindTg_t, bindTg_l, bindAll_n, bindAll_c, cellsAt_n, cellsAt_c, ownAll_n, putCells_n, putCells_c, out_rt, out_nx, wp_ok, wp_some, wp_bind, GG_cl, GG_co, List.set_cons_zero, List.set_cons_succ, List.getElem?_cons_zero, List.getElem?_cons_succ, List.map_cons, List.map_nil, if_true, if_false, Bool.false_eq_true, tru_b, op_nt, op_neg, seqOf_l, seqOf_t, itemsOf_l, itemsOf_t, lends, owned, hasList, Bool.not_false, Bool.not_true, Bool.or_true, Bool.true_or, Bool.or_false, Bool.false_or, Bool.and_true, Bool.true_and, List.all_nil, List.all_cons, true_and, and_true, List.take_zero, List.take_succ_cons, List.take_nil, noCel, isCel, List.length_cons, List.length_nil, List.length_append, List.nil_append, List.cons_append, consts, permute, allM, R.ofO_some, R.ok_bind, List.append_assoc, Nat.zero_add, hb5.nl]
    exact hQ (.way cu cu2) b5 (hb5.mono (by omega))
  · simp only [we_lit, we_gl, we_var, we_pk, we_nil, consK_t, we_cons, we_tup, lstK_t, we_lst, we_o1, we_o2, we_and, we_or, we_ife, we_isi, we_sl, we_nob, we_comp, we_rng1, we_rng2, we_enum, we_zip, callK_t, we_call, callkK_t, we_callk, calltK_l, we_callt, c_step, l_step, k_nx, k_rt, k_bk, k_ct, t_nx, t_ct, t_bk, t_rt, ws_nop, ws_seq, ws_ret, ws_retc, ws_retN, ws_asg, celK_l, ws_cel, parK_t, ws_par, ws_unp, ws_ifs, ws_fors, ws_expr, ws_app, ws_setx, ws_brk, ws_cont, ws_frz, getV_v, getV_s, getC_c, getC_s, bindTg_nm, bindTg_t, bindTg_l, bindAll_n, bindAll_c, cellsAt_n, cellsAt_c, ownAll_n, putCells_n, putCells_c, out_rt, out_nx, wp_ok, wp_some, wp_bind, GG_cl, GG_co, List.set_cons_zero, List.set_cons_succ, List.getElem?_cons_zero, List.getElem?_cons_succ, List.map_cons, List.map_nil, if_true, if_false, Bool.false_eq_true, tru_b, op_nt, op_neg, seqOf_l, seqOf_t, itemsOf_l, itemsOf_t, lends, owned, hasList, Bool.not_false, Bool.not_true, Bool.or_true, Bool.true_or, Bool.or_false, Bool.false_or, Bool.and_true, Bool.true_and, List.all_nil, List.all_cons, true_and, and_true, List.take_zero, List.take_succ_cons, List.take_nil, noCel, isCel, List.length_cons, List.length_nil, List.length_append, List.nil_append, List.cons_append, consts, permute, allM, R.ofO_some, R.ok_bind, List.append_assoc, Nat.zero_add, op_isin_t, op_eq_ss, List.any_cons, List.any_nil, eqv_ss, dec, String.reduceEq, decide_false, decide_true]
    refine cut1 hA hb4 (by decide) (by decide) hs (by omega) fun cu2 b5 _ hb5 => ?_
    simp only [we_lit, we_gl, we_var, we_pk, we_nil, consK_t, we_cons, we_tup, lstK_t, we_lst, we_o1, we_o2, we_and, we_or, we_ife, we_isi, we_sl, we_nob, we_comp, we_rng1, we_rng2, we_enum, we_zip, callK_t, we_call, callkK_t, we_callk, calltK_l, we_callt, c_step, l_step, k_nx, k_rt, k_bk, k_ct, t_nx, t_ct, t_bk, t_rt, ws_nop, ws_seq, ws_ret, ws_retc, ws_retN, ws_asg, celK_l, ws_cel, parK_t, ws_par, ws_unp, ws_ifs, ws_fors, ws_expr, ws_app, ws_setx, ws_brk, ws_cont, ws_frz, getV_v, getV_s, getC_c, getC_s, bindTg_nm, bindTg_t, bindTg_l, bindAll_n, bindAll_c, cellsAt_n, cellsAt_c, ownAll_n, putCells_n, putCells_c, out_rt, out_nx, wp_ok, wp_some, wp_bind, GG_cl, GG_co, List.set_cons_zero, List.set_cons_succ, List.getElem?_cons_zero, List.getElem?_cons_succ, List.map_cons, List.map_nil, if_true, if_false, Bool.false_eq_true, tru_b, op_nt, op_neg, seqOf_l, seqOf_t, itemsOf_l, itemsOf_t, lends, owned, hasList, Bool.not_false, Bool.not_true, Bool.or_true, Bool.true_or, Bool.or_false, Bool.false_or, Bool.and_true, Bool.true_and, List.all_nil, List.all_cons, true_and, and_true, List.take_zero, List.take_succ_cons, List.take_nil, noCel, isCel, List.length_cons, List.length_nil, List.length_append, List.nil_append, List.cons_append, consts, permute, allM, R.ofO_some, R.ok_bind, List.append_assoc, Nat.zero_add, hb5.nl]
    exact hQ (.fin cu cu2) b5 (hb5.mono (by omega))
  · simp only [we_lit, we_gl, we_var, we_pk, we_nil, consK_t, we_cons, we_tup, lstK_t, we_lst, we_o1, we_o2, we_and, we_or, we_ife, we_isi, we_sl, we_nob, we_comp, we_rng1, we_rng2, we_enum, we_zip, callK_t, we_call, callkK_t, we_callk, calltK_l, we_callt, c_step, l_step, k_nx, k_rt, k_bk, k_ct, t_nx, t_ct, t_bk, t_rt, ws_nop, ws_seq, ws_ret, ws_retc, ws_retN, ws_asg, celK_l, ws_cel, parK_t, ws_par, ws_unp, ws_ifs, ws_fors, ws_expr, ws_app, ws_setx, ws_brk, ws_cont, ws_frz, getV_v, getV_s, getC_c, getC_s, bindTg_nm, bindTg_t, bindTg_l, bindAll_n, bindAll_c, cellsAt_n, cellsAt_c, ownAll_n, putCells_n, putCells_c, out_rt, out_nx, wp_ok, wp_some, wp_bind, GG_cl, GG_co, List.set_cons_zero, List.set_cons_succ, List.getElem?_cons_zero, List.getElem?_cons_succ, List.map_cons, List.map_nil, if_true, if_false, Bool.false_eq_true, tru_b, op_nt, op_neg, seqOf_l, seqOf_t, itemsOf_l, itemsOf_t, lends, owned, hasList, Bool.not_false, Bool.not_true, Bool.or_true, Bool.true_or, Bool.or_false, Bool.false_or, Bool.and_true, Bool.true_and, List.all_nil, List.all_cons, true_and, and_true, List.take_zero, List.take_succ_cons, List.take_nil, noCel, isCel, List.length_cons, List.length_nil, List.length_append, List.nil_append, List.cons_append, consts, permute, allM, R.ofO_some, R.ok_bind, List.append_assoc, Nat.zero_add, op_isin_t, op_eq_ss, List.any_cons, List.any_nil, eqv_ss, dec, String.reduceEq, decide_false, decide_true]
    exact hQ (.give mi it cu) b4 (hb4.mono (by omega))
  · simp only [we_lit, we_gl, we_var, we_pk, we_nil, consK_t, we_cons, we_tup, lstK_t, we_lst, we_o1, we_o2, we_and, we_or, we_ife, we_isi, we_sl, we_nob, we_comp, we_rng1, we_rng2, we_enum, we_zip, callK_t, we_call, callkK_t, we_callk, calltK_l, we_callt, c_step, l_step, k_nx, k_rt, k_bk, k_ct, t_nx, t_ct, t_bk, t_rt, ws_nop, ws_seq, ws_ret, ws_retc, ws_retN, ws_asg, celK_l, ws_cel, parK_t, ws_par, ws_unp, ws_ifs, ws_fors, ws_expr, ws_app, ws_setx, ws_brk, ws_cont, ws_frz, getV_v, getV_s, getC_c, getC_s, bindTg_nm, bindTg_t, bindTg_l, bindAll_n, bindAll_c, cellsAt_n, cellsAt_c, ownAll_n, putCells_n, putCells_c, out_rt, out_nx, wp_ok, wp_some, wp_bind, GG_cl, GG_co, List.set_cons_zero, List.set_cons_succ, List.getElem?_cons_zero, List.getElem?_cons_succ, List.map_cons, List.map_nil, if_true, if_false, Bool.false_eq_true, tru_b, op_nt, op_neg, seqOf_l, seqOf_t, itemsOf_l, itemsOf_t, lends, owned, hasList, Bool.not_false, Bool.not_true, Bool.or_true, Bool.true_or, Bool.or_false, Bool.false_or, Bool.and_true, Bool.true_and, List.all_nil, List.all_cons, true_and, and_true, List.take_zero, List.take_succ_cons, List.take_nil, noCel, isCel, List.length_cons, List.length_nil, List.length_append, List.nil_append, List.cons_append, consts, permute, allM, R.ofO_some, R.ok_bind, List.append_assoc, Nat.zero_add, op_isin_t, op_eq_ss, List.any_cons, List.any_nil, eqv_ss, dec, String.reduceEq, decide_false, decide_true]
    exact hQ (.swap mi it cu) b4 (hb4.mono (by omega))
  · simp only [we_lit, we_gl, we_var, we_pk, we_nil, consK_t, we_cons, we_tup, lstK_t, we_lst, we_o1, we_o2, we_and, we_or, we_ife, we_isi, we_sl, we_nob, we_comp, we_rng1, we_rng2, we_enum, we_zip, callK_t, we_call, callkK_t, we_callk, calltK_l, we_callt, c_step, l_step, k_nx, k_rt, k_bk, k_ct, t_nx, t_ct, t_bk, t_rt, ws_nop, ws_seq, ws_ret, ws_retc, ws_retN, ws_asg, celK_l, ws_cel, parK_t, ws_par, ws_unp, ws_ifs, ws_fors, ws_expr, ws_app, ws_setx, ws_brk, ws_cont, ws_frz, getV_v, getV_s, getC_c, getC_s, bindTg_nm, bindTg_t, bindTg_l, bindAll_n, bindAll_c, cellsAt_n, cellsAt_c, ownAll_n, putCells_n, putCells_c, out_rt, out_nx, wp_ok, wp_some, wp_bind, GG_cl, GG_co, List.set_cons_zero, List.set_cons_succ, List.getElem?_cons_zero, List.getElem?_cons_succ, List.map_cons, List.map_nil, if_true, if_false, Bool.false_eq_true, tru_b, op_nt, op_neg, seqOf_l, seqOf_t, itemsOf_l, itemsOf_t, lends, owned, hasList, Bool.not_false, Bool.not_true, Bool.or_true, Bool.true_or, Bool.or_false, Bool.false_or, Bool.and_true, Bool.true_and, List.all_nil, List.all_cons, true_and, and_true, List.take_zero, List.take_succ_cons, List.take_nil, noCel, isCel, List.length_cons, List.length_nil, List.length_append, List.nil_append, List.cons_append, consts, permute, allM, R.ofO_some, R.ok_bind, List.append_assoc, Nat.zero_add, op_isin_t, op_eq_ss, List.any_cons, List.any_nil, eqv_ss, dec, String.reduceEq, decide_false, decide_true]
    exact hQ (.vest it cu) b4 (hb4.mono (by omega))
  · simp only [we_lit, we_gl, we_var, we_pk, we_nil, consK_t, we_cons, we_tup, lstK_t, we_lst, we_o1, we_o2, we_and, we_or, we_ife, we_isi, we_sl, we_nob, we_comp, we_rng1, we_rng2, we_enum, we_zip, callK_t, we_call, callkK_t, we_callk, calltK_l, we_callt, c_step, l_step, k_nx, k_rt, k_bk, k_ct, t_nx, t_ct, t_bk, t_rt, ws_nop, ws_seq, ws_ret, ws_retc, ws_retN, ws_asg, celK_l, ws_cel, parK_t, ws_par, ws_unp, ws_ifs, ws_fors, ws_expr, ws_app, ws_setx, ws_brk, ws_cont, ws_frz, getV_v, getV_s, getC_c, getC_s, bindTg_nm, bindTg_t, bindTg_l, bindAll_n, bindAll_c, cellsAt_n, cellsAt_c, ownAll_n, putCells_n, putCells_c, out_rt, out_nx, wp_ok, wp_some, wp_bind, GG_cl, GG_co, List.set_cons_zero, List.set_cons_succ, List.getElem?_cons_zero, List.getElem?_cons_succ, List.map_cons, List.map_nil, if_true, if_false, Bool.false_eq_true, tru_b, op_nt, op_neg, seqOf_l, seqOf_t, itemsOf_l, itemsOf_t, lends, owned, hasList, Bool.not_false, Bool.not_true, Bool.or_true, Bool.true_or, Bool.or_false, Bool.false_or, Bool.and_true, Bool.true_and, List.all_nil, List.all_cons, true_and, and_true, List.take_zero, List.take_succ_cons, List.take_nil, noCel, isCel, List.length_cons, List.length_nil, List.length_append, List.nil_append, List.cons_append, consts, permute, allM, R.ofO_some, R.ok_bind, List.append_assoc, Nat.zero_add, op_isin_t, op_eq_ss, List.any_cons, List.any_nil, eqv_ss, dec, String.reduceEq, decide_false, decide_true]
    refine of1 (val := PyData.str) (xs := [Str.ofString "q", Str.ofString "p", Str.ofString "r"]) hb4 (by decide) (by decide) (by omega) fun na b5 _ hb5 => ?_
    simp only [we_lit, we_gl, we_var, we_pk, we_nil, consK_t, we_cons, we_tup, lstK_t, we_lst, we_o1, we_o2, we_and, we_or, we_ife, we_isi, we_sl, we_nob, we_comp, we_rng1, we_rng2, we_enum, we_zip, callK_t, we_call, callkK_t, we_callk, calltK_l, we_callt, c_step, l_step, k_nx, k_rt, k_bk, k_ct, t_nx, t_ct, t_bk, t_rt, ws_nop, ws_seq, ws_ret, ws_retc, ws_retN, ws_asg, celK_l, ws_cel, parK_t, ws_par, ws_unp, ws_ifs, ws_fors, ws_expr, ws_app, ws_setx, ws_brk, ws_cont, ws_frz, getV_v, getV_s, getC_c, getC_s, bindTg_nm, bindTg_t, bindTg_l, bindAll_n, bindAll_c, cellsAt_n, cellsAt_c, ownAll_n, putCells_n, putCells_c, out_rt, out_nx, wp_ok, wp_some, wp_bind, GG_cl, GG_co, List.set_cons_zero, List.set_cons_succ, List.getElem?_cons_zero, List.getElem?_cons_succ, List.map_cons, List.map_nil, if_true, if_false, Bool.false_eq_true, tru_b, op_nt, op_neg, seqOf_l, seqOf_t, itemsOf_l, itemsOf_t, lends, owned, hasList, Bool.not_false, Bool.not_true, Bool.or_true, Bool.true_or, Bool.or_false, Bool.false_or, Bool.and_true, Bool.true_and, List.all_nil, List.all_cons, true_and, and_true, List.take_zero, List.take_succ_cons, List.take_nil, noCel, isCel, List.length_cons, List.length_nil, List.length_append, List.nil_append, List.cons_append, consts, permute, allM, R.ofO_some, R.ok_bind, List.append_assoc, Nat.zero_add, hb5.nl]
    exact hQ (.charge na cu) b5 (hb5.mono (by omega))
theorem history1 {A : D} {ss : List Str} {n : Nat} {k m : Int} {b : List D} {Q : D × Cs → Prop} (hA : seqOf A = .ok (ss.map .str)) (hb : Bx k b) (hs : ss.length ≤ 10) (hm0 : 0 ≤ m) (hm : m ≤ 20) (hk : k < 2 ^ 49)
    (hQ : ∀ (h : List Deed) b', h.length ≤ 20 → Bx (k + 2300) b' → Q (hisD h, [b'])) : wp (evC prog (n + 5) 27 [A, .list (six.map .str), .int m] [b]) Q := by
  refine c_law_history ?_
  simp only [we_lit, we_gl, we_var, we_pk, we_nil, consK_t, we_cons, we_tup, lstK_t, we_lst, we_o1, we_o2, we_and, we_or, we_ife, we_isi, we_sl, we_nob, we_comp, we_rng1, we_rng2, we_enum, we_zip, callK_t, we_call, callkK_t, we_callk, calltK_l, we_callt, c_step, l_step, k_nx, k_rt, k_bk, k_ct, t_nx, t_ct, t_bk, t_rt, ws_nop, ws_seq, ws_ret, ws_retc, ws_retN, ws_asg, celK_l, ws_cel, parK_t, ws_par, ws_unp, ws_ifs, ws_fors, ws_expr, ws_app, ws_setx, ws_brk, ws_cont, ws_frz, getV_v, getV_s, getC_c, getC_s, bindTg_nm, bindTg_t, bindTg_l, bindAll_n, bindAll_c, cellsAt_n, cellsAt_c, ownAll_n, putCells_n, putCells_c, out_rt, out_nx, wp_ok, wp_some, wp_bind, GG_cl, GG_co, List.set_cons_zero, List.set_cons_succ, List.getElem?_cons_zero, List.getElem?_cons_succ, List.map_cons, List.map_nil, if_true, if_false, Bool.false_eq_true, tru_b, op_nt, op_neg, seqOf_l, seqOf_t, itemsOf_l, itemsOf_t, lends, owned, hasList, Bool.not_false, Bool.not_true, Bool.or_true, Bool.true_or, Bool.or_false, Bool.false_or, Bool.and_true, Bool.true_and, List.all_nil, List.all_cons, true_and, and_true, List.take_zero, List.take_succ_cons, List.take_nil, noCel, isCel, List.length_cons, List.length_nil, List.length_append, List.nil_append, List.cons_append, consts, permute, allM, R.ofO_some, R.ok_bind, List.append_assoc, Nat.zero_add, b_law_history, op_add_ii]
  refine take1 hb (by omega) (by omega) (by omega) fun v b1 hv0 hv1 hb1 => ?_
  simp only [we_lit, we_gl, we_var, we_pk, we_nil, consK_t, we_cons, we_tup, lstK_t, we_lst, we_o1, we_o2, we_and, we_or, we_ife, we_isi, we_sl, we_nob, we_comp, we_rng1, we_rng2, we_enum, we_zip, callK_t, we_call, callkK_t, we_callk, calltK_l, we_callt, c_step, l_step, k_nx, k_rt, k_bk, k_ct, t_nx, t_ct, t_bk, t_rt, ws_nop, ws_seq, ws_ret, ws_retc, ws_retN, ws_asg, celK_l, ws_cel, parK_t, ws_par, ws_unp, ws_ifs, ws_fors, ws_expr, ws_app, ws_setx, ws_brk, ws_cont, ws_frz, getV_v, getV_s, getC_c, getC_s, bindTg_nm, bindTg_t, bindTg_l, bindAll_n, bindAll_c, cellsAt_n, cellsAt_c, ownAll_n, putCells_n, putCells_c, out_rt, out_nx, wp_ok, wp_some, wp_bind, GG_cl, GG_co, List.set_cons_zero, List.set_cons_succ, List.getElem?_cons_zero, List.getElem?_cons_succ, List.map_cons, List.map_nil, if_true, if_false, Bool.false_eq_true, tru_b, op_nt, op_neg, seqOf_l, seqOf_t, itemsOf_l, itemsOf_t, lends, owned, hasList, Bool.not_false, Bool.not_true, Bool.or_true, Bool.true_or, Bool.or_false, Bool.false_or, Bool.and_true, Bool.true_and, List.all_nil, List.all_cons, true_and, and_true, List.take_zero, List.take_succ_cons, List.take_nil, noCel, isCel, List.length_cons, List.length_nil, List.length_append, List.nil_append, List.cons_append, consts, permute, allM, R.ofO_some, R.ok_bind, List.append_assoc, Nat.zero_add, asInt_i, hb1.nl]
  refine ⟨by simp only [sz]; omega, ?_⟩
  refine comp_draw Deed.dat (fun _ => True) 110 (by decide) hb1 (fun x _ k' b' h1 h2 hb' => ?_) (fun h b3 hl _ hb3 => ?_)
  · simp only [we_lit, we_gl, we_var, we_pk, we_nil, consK_t, we_cons, we_tup, lstK_t, we_lst, we_o1, we_o2, we_and, we_or, we_ife, we_isi, we_sl, we_nob, we_comp, we_rng1, we_rng2, we_enum, we_zip, callK_t, we_call, callkK_t, we_callk, calltK_l, we_callt, c_step, l_step, k_nx, k_rt, k_bk, k_ct, t_nx, t_ct, t_bk, t_rt, ws_nop, ws_seq, ws_ret, ws_retc, ws_retN, ws_asg, celK_l, ws_cel, parK_t, ws_par, ws_unp, ws_ifs, ws_fors, ws_expr, ws_app, ws_setx, ws_brk, ws_cont, ws_frz, getV_v, getV_s, getC_c, getC_s, bindTg_nm, bindTg_t, bindTg_l, bindAll_n, bindAll_c, cellsAt_n, cellsAt_c, ownAll_n, putCells_n, putCells_c, out_rt, out_nx, wp_ok, wp_some, wp_bind, GG_cl, GG_co, List.set_cons_zero, List.set_cons_succ, List.getElem?_cons_zero, List.getElem?_cons_succ, List.map_cons, List.map_nil, if_true, if_false, Bool.false_eq_true, tru_b, op_nt, op_neg, seqOf_l, seqOf_t, itemsOf_l, itemsOf_t, lends, owned, hasList, Bool.not_false, Bool.not_true, Bool.or_true, Bool.true_or, Bool.or_false, Bool.false_or, Bool.and_true, Bool.true_and, List.all_nil, List.all_cons, true_and, and_true, List.take_zero, List.take_succ_cons, List.take_nil, noCel, isCel, List.length_cons, List.length_nil, List.length_append, List.nil_append, List.cons_append, consts, permute, allM, R.ofO_some, R.ok_bind, List.append_assoc, Nat.zero_add]
    refine deed1 hA hb' hs (by simp only [List.length_range] at h2; omega) fun d b4 hb4 => ?_
    simp only [we_lit, we_gl, we_var, we_pk, we_nil, consK_t, we_cons, we_tup, lstK_t, we_lst, we_o1, we_o2, we_and, we_or, we_ife, we_isi, we_sl, we_nob, we_comp, we_rng1, we_rng2, we_enum, we_zip, callK_t, we_call, callkK_t, we_callk, calltK_l, we_callt, c_step, l_step, k_nx, k_rt, k_bk, k_ct, t_nx, t_ct, t_bk, t_rt, ws_nop, ws_seq, ws_ret, ws_retc, ws_retN, ws_asg, celK_l, ws_cel, parK_t, ws_par, ws_unp, ws_ifs, ws_fors, ws_expr, ws_app, ws_setx, ws_brk, ws_cont, ws_frz, getV_v, getV_s, getC_c, getC_s, bindTg_nm, bindTg_t, bindTg_l, bindAll_n, bindAll_c, cellsAt_n, cellsAt_c, ownAll_n, putCells_n, putCells_c, out_rt, out_nx, wp_ok, wp_some, wp_bind, GG_cl, GG_co, List.set_cons_zero, List.set_cons_succ, List.getElem?_cons_zero, List.getElem?_cons_succ, List.map_cons, List.map_nil, if_true, if_false, Bool.false_eq_true, tru_b, op_nt, op_neg, seqOf_l, seqOf_t, itemsOf_l, itemsOf_t, lends, owned, hasList, Bool.not_false, Bool.not_true, Bool.or_true, Bool.true_or, Bool.or_false, Bool.false_or, Bool.and_true, Bool.true_and, List.all_nil, List.all_cons, true_and, and_true, List.take_zero, List.take_succ_cons, List.take_nil, noCel, isCel, List.length_cons, List.length_nil, List.length_append, List.nil_append, List.cons_append, consts, permute, allM, R.ofO_some, R.ok_bind, List.append_assoc, Nat.zero_add, hb4.nl, (flt_deed d).nl]
    exact ⟨d, b4, rfl, hb4⟩
  · simp only [List.length_range] at hl hb3
    simp only [we_lit, we_gl, we_var, we_pk, we_nil, consK_t, we_cons, we_tup, lstK_t, we_lst, we_o1, we_o2, we_and, we_or, we_ife, we_isi, we_sl, we_nob, we_comp, we_rng1, we_rng2, we_enum, we_zip, callK_t, we_call, callkK_t, we_callk, calltK_l, we_callt, c_step, l_step, k_nx, k_rt, k_bk, k_ct, t_nx, t_ct, t_bk, t_rt, ws_nop, ws_seq, ws_ret, ws_retc, ws_retN, ws_asg, celK_l, ws_cel, parK_t, ws_par, ws_unp, ws_ifs, ws_fors, ws_expr, ws_app, ws_setx, ws_brk, ws_cont, ws_frz, getV_v, getV_s, getC_c, getC_s, bindTg_nm, bindTg_t, bindTg_l, bindAll_n, bindAll_c, cellsAt_n, cellsAt_c, ownAll_n, putCells_n, putCells_c, out_rt, out_nx, wp_ok, wp_some, wp_bind, GG_cl, GG_co, List.set_cons_zero, List.set_cons_succ, List.getElem?_cons_zero, List.getElem?_cons_succ, List.map_cons, List.map_nil, if_true, if_false, Bool.false_eq_true, tru_b, op_nt, op_neg, seqOf_l, seqOf_t, itemsOf_l, itemsOf_t, lends, owned, hasList, Bool.not_false, Bool.not_true, Bool.or_true, Bool.true_or, Bool.or_false, Bool.false_or, Bool.and_true, Bool.true_and, List.all_nil, List.all_cons, true_and, and_true, List.take_zero, List.take_succ_cons, List.take_nil, noCel, isCel, List.length_cons, List.length_nil, List.length_append, List.nil_append, List.cons_append, consts, permute, allM, R.ofO_some, R.ok_bind, List.append_assoc, Nat.zero_add, op_tup_l]
    exact hQ h b3 (by omega) (hb3.mono (by omega))
theorem spots2 {n : Nat} : evC prog (n + 1) 20 [spD ar2] [] = .ok (.list (([[], ["b"], ["b", "m"], ["m"]] : List (List Str)).map spD), []) := by kernel_rfl
theorem spots3 {n : Nat} : evC prog (n + 1) 20 [spD ar3] [] = .ok (.list (([[], ["b"], ["b", "m"], ["b", "m", "x"], ["b", "x"], ["m"], ["m", "x"], ["x"]] : List (List Str)).map spD), []) := by kernel_rfl
theorem let1 {n : Nat} {ss : List Str} (hss : ss = ar2 ∨ ss = ar3) (cu : Cut) : ∃ sps : List (List Str), evC prog (n + 2) 22 [.tuple [spD ss, cuD cu]] [] = .ok (.list (sps.map spD), []) ∧ sps.length ≤ 8 := by
  have : ∃ all : List (List Str), evC prog (n + 1) 20 [spD ss] [] = .ok (.list (all.map spD), []) ∧ all.length ≤ 8 := by
    rcases hss with rfl | rfl
    · exact ⟨_, spots2, by decide⟩
    · exact ⟨_, spots3, by decide⟩
  obtain ⟨all, e, hl⟩ := this
  refine ⟨all.filter fun sp => !inB sp cu, eq_of_wp (c_law_let ?_), Nat.le_trans (List.length_filter_le _ _) hl⟩
  simp only [we_lit, we_gl, we_var, we_pk, we_nil, consK_t, we_cons, we_tup, lstK_t, we_lst, we_o1, we_o2, we_and, we_or, we_ife, we_isi, we_sl, we_nob, we_comp, we_rng1, we_rng2, we_enum, we_zip, callK_t, we_call, callkK_t, we_callk, calltK_l, we_callt, c_step, l_step, k_nx, k_rt, k_bk, k_ct, t_nx, t_ct, t_bk, t_rt, ws_nop, ws_seq, ws_ret, ws_retc, ws_retN, ws_asg, celK_l, ws_cel, parK_t, ws_par, ws_unp, ws_ifs, ws_fors, ws_expr, ws_app, ws_setx, ws_brk, ws_cont, ws_frz, getV_v, getV_s, getC_c, getC_s, bindTg_nm, bindTg_t, bindTg_l, bindAll_n, bindAll_c, cellsAt_n, cellsAt_c, ownAll_n, putCells_n, putCells_c, out_rt, out_nx, wp_ok, wp_some, wp_bind, GG_cl, GG_co, List.set_cons_zero, List.set_cons_succ, List.getElem?_cons_zero, List.getElem?_cons_succ, List.map_cons, List.map_nil, if_true, if_false, Bool.false_eq_true, tru_b, op_nt, op_neg, seqOf_l, seqOf_t, itemsOf_l, itemsOf_t, lends, owned, hasList, Bool.not_false, Bool.not_true, Bool.or_true, Bool.true_or, Bool.or_false, Bool.false_or, Bool.and_true, Bool.true_and, List.all_nil, List.all_cons, true_and, and_true, List.take_zero, List.take_succ_cons, List.take_nil, noCel, isCel, List.length_cons, List.length_nil, List.length_append, List.nil_append, List.cons_append, consts, permute, allM, R.ofO_some, R.ok_bind, List.append_assoc, Nat.zero_add, b_law_let, op_idx_t, place_0, place_1, e]
  refine comp_filter (fun sp => !inB sp cu) spD (fun sp _ => ?_) rfl
  have := law_in_ok (P := prog) rfl (n := n) sp cu
  simp only [we_lit, we_gl, we_var, we_pk, we_nil, consK_t, we_cons, we_tup, lstK_t, we_lst, we_o1, we_o2, we_and, we_or, we_ife, we_isi, we_sl, we_nob, we_comp, we_rng1, we_rng2, we_enum, we_zip, callK_t, we_call, callkK_t, we_callk, calltK_l, we_callt, c_step, l_step, k_nx, k_rt, k_bk, k_ct, t_nx, t_ct, t_bk, t_rt, ws_nop, ws_seq, ws_ret, ws_retc, ws_retN, ws_asg, celK_l, ws_cel, parK_t, ws_par, ws_unp, ws_ifs, ws_fors, ws_expr, ws_app, ws_setx, ws_brk, ws_cont, ws_frz, getV_v, getV_s, getC_c, getC_s, bindTg_nm, bindTg_t, bindTg_l, bindAll_n, bindAll_c, cellsAt_n, cellsAt_c, ownAll_n, putCells_n, putCells_c, out_rt, out_nx, wp_ok, wp_some, wp_bind, GG_cl, GG_co, List.set_cons_zero, List.set_cons_succ, List.getElem?_cons_zero, List.getElem?_cons_succ, List.map_cons, List.map_nil, if_true, if_false, Bool.false_eq_true, tru_b, op_nt, op_neg, seqOf_l, seqOf_t, itemsOf_l, itemsOf_t, lends, owned, hasList, Bool.not_false, Bool.not_true, Bool.or_true, Bool.true_or, Bool.or_false, Bool.false_or, Bool.and_true, Bool.true_and, List.all_nil, List.all_cons, true_and, and_true, List.take_zero, List.take_succ_cons, List.take_nil, noCel, isCel, List.length_cons, List.length_nil, List.length_append, List.nil_append, List.cons_append, consts, permute, allM, R.ofO_some, R.ok_bind, List.append_assoc, Nat.zero_add, op_idx_t, place_0, place_1, this]
  cases inB sp cu <;> simp
end LP
set_option autoImplicit false
set_option linter.all false
set_option maxRecDepth 100000
set_option maxHeartbeats 1000000
namespace LP
open PySem LP.T
theorem op_ne_nil {α : Type} (f : α → D) (xs : List α) : op2 .ne (.list (xs.map f)) (.list []) = .ok (.bool (!xs.isEmpty)) := by
  cases xs with
  | nil => rfl
  | cons x xs =>
    simp only [op2, List.map_cons, PyData.depth, PyData.depthAll, PyData.eqv, PyData.eqvAll, List.isEmpty_cons]
    rw [decide_eq_true (by simp only [dep]; omega)]
    rfl
theorem op_mul_ii {a b : Int} (h : a.natAbs < 2 ^ 63 ∨ b.natAbs < 2 ^ 63) : op2 .mul (.int a) (.int b) = .ok (.int (a * b)) := by
  simp only [op2, R.chk, decide_eq_true h, if_true, R.ok_bind]
theorem op_mod_ii {a b : Int} (h : 0 < b) : op2 .mod (.int a) (.int b) = .ok (.int (a % b)) := by
  simp only [op2, R.chk, decide_eq_true h, if_true, R.ok_bind]
theorem op_add_ll {a b : List D} (h : a.length + b.length ≤ sz) : op2 .add (.list a) (.list b) = .ok (.list (a ++ b)) := by
  simp only [op2, R.chk, decide_eq_true h, if_true, R.ok_bind]
theorem op_abs (i : Int) : op1 .abs (.int i) = .ok (.int (if i < 0 then -i else i)) := rfl
theorem op_lt_ii (a b : Int) : op2 .lt (.int a) (.int b) = .ok (.bool (decide (a < b))) := by simp only [op2, alk, PySem.W.alike, PyData.depth, notNone, dlt]; rfl
theorem op_pow18 : op2 .pow (.int 10) (.int 18) = .ok (.int 1000000000000000000) := by kernel_rfl
theorem right1 {n : Nat} {k : Int} {b : List D} {Q : D × Cs → Prop} (hb : Bx k b) (hk : k < 2 ^ 40) (hQ : ∀ b', Q (.bool true, [b'])) : wp (evC prog (n + 13) 37 [] [b]) Q := by
  refine c_law_right ?_
  simp only [we_lit, we_gl, we_var, we_pk, we_nil, consK_t, we_cons, we_tup, lstK_t, we_lst, we_o1, we_o2, we_and, we_or, we_ife, we_isi, we_sl, we_nob, we_comp, we_rng1, we_rng2, we_enum, we_zip, callK_t, we_call, callkK_t, we_callk, calltK_l, we_callt, c_step, l_step, k_nx, k_rt, k_bk, k_ct, t_nx, t_ct, t_bk, t_rt, ws_nop, ws_seq, ws_ret, ws_retc, ws_retN, ws_asg, celK_l, ws_cel, parK_t, ws_par, ws_unp, ws_ifs, ws_fors, ws_expr, ws_app, ws_setx, ws_brk, ws_cont, ws_frz, getV_v, getV_s, getC_c, getC_s, bindTg_nm, bindTg_t, bindTg_l, bindAll_n, bindAll_c, cellsAt_n, cellsAt_c, ownAll_n, putCells_n, putCells_c, out_rt, out_nx, wp_ok, wp_some, wp_bind, GG_cl, GG_co, List.set_cons_zero, List.set_cons_succ, List.getElem?_cons_zero, List.getElem?_cons_succ, List.map_cons, List.map_nil, if_true, if_false, Bool.false_eq_true, tru_b, op_nt, op_neg, seqOf_l, seqOf_t, itemsOf_l, itemsOf_t, lends, owned, hasList, Bool.not_false, Bool.not_true, Bool.or_true, Bool.true_or, Bool.or_false, Bool.false_or, Bool.and_true, Bool.true_and, List.all_nil, List.all_cons, true_and, and_true, List.take_zero, List.take_succ_cons, List.take_nil, noCel, isCel, List.length_cons, List.length_nil, List.length_append, List.nil_append, List.cons_append, consts, permute, allM, R.ofO_some, R.ok_bind, List.append_assoc, Nat.zero_add, b_law_right, asInt_i]
  refine ⟨by decide, ?_⟩
  refine for_inv (enc := fun k : Nat => PyData.int (k : Int)) (fun p vs cs => ∃ x1 x2 x3 x4 x5 x6 x7 b', vs = [.c 0, x1, x2, x3, x4, x5, x6, x7] ∧ cs = [b'] ∧ Bx (k + 5000 * p.length) b') ⟨_, _, _, _, _, _, _, b, rfl, rfl, by simpa using hb⟩ (fun p x r vs cs e hI => ?_) (fun vs cs hI => ?_)
  · obtain ⟨x1, x2, x3, x4, x5, x6, x7, b0, rfl, rfl, hb0⟩ := hI
    have hp : p.length < 2 := by
      have := congrArg List.length e
      simp at this; omega
    simp only [we_lit, we_gl, we_var, we_pk, we_nil, consK_t, we_cons, we_tup, lstK_t, we_lst, we_o1, we_o2, we_and, we_or, we_ife, we_isi, we_sl, we_nob, we_comp, we_rng1, we_rng2, we_enum, we_zip, callK_t, we_call, callkK_t, we_callk, calltK_l, we_callt, c_step, l_step, k_nx, k_rt, k_bk, k_ct, t_nx, t_ct, t_bk, t_rt, ws_nop, ws_seq, ws_ret, ws_retc, ws_retN, ws_asg, celK_l, ws_cel, parK_t, ws_par, ws_unp, ws_ifs, ws_fors, ws_expr, ws_app, ws_setx, ws_brk, ws_cont, ws_frz, getV_v, getV_s, getC_c, getC_s, bindTg_nm, bindTg_t, bindTg_l, bindAll_n, bindAll_c, cellsAt_n, cellsAt_c, ownAll_n, putCells_n, putCells_c, out_rt, out_nx, wp_ok, wp_some, wp_bind, GG_cl, GG_co, List.set_cons_zero, List.set_cons_succ, List.getElem?_cons_zero, List.getElem?_cons_succ, List.map_cons, List.map_nil, if_true, if_false, Bool.false_eq_true, tru_b, op_nt, op_neg, seqOf_l, seqOf_t, itemsOf_l, itemsOf_t, lends, owned, hasList, Bool.not_false, Bool.not_true, Bool.or_true, Bool.true_or, Bool.or_false, Bool.false_or, Bool.and_true, Bool.true_and, List.all_nil, List.all_cons, true_and, and_true, List.take_zero, List.take_succ_cons, List.take_nil, noCel, isCel, List.length_cons, List.length_nil, List.length_append, List.nil_append, List.cons_append, consts, permute, allM, R.ofO_some, R.ok_bind, List.append_assoc, Nat.zero_add]
    refine chart1 hb0 (by omega) fun ss cu b1 hss hcu hb1 => ?_
    have hsl : ss.length ≤ 10 := by rcases hss with rfl | rfl <;> decide
    simp only [we_lit, we_gl, we_var, we_pk, we_nil, consK_t, we_cons, we_tup, lstK_t, we_lst, we_o1, we_o2, we_and, we_or, we_ife, we_isi, we_sl, we_nob, we_comp, we_rng1, we_rng2, we_enum, we_zip, callK_t, we_call, callkK_t, we_callk, calltK_l, we_callt, c_step, l_step, k_nx, k_rt, k_bk, k_ct, t_nx, t_ct, t_bk, t_rt, ws_nop, ws_seq, ws_ret, ws_retc, ws_retN, ws_asg, celK_l, ws_cel, parK_t, ws_par, ws_unp, ws_ifs, ws_fors, ws_expr, ws_app, ws_setx, ws_brk, ws_cont, ws_frz, getV_v, getV_s, getC_c, getC_s, bindTg_nm, bindTg_t, bindTg_l, bindAll_n, bindAll_c, cellsAt_n, cellsAt_c, ownAll_n, putCells_n, putCells_c, out_rt, out_nx, wp_ok, wp_some, wp_bind, GG_cl, GG_co, List.set_cons_zero, List.set_cons_succ, List.getElem?_cons_zero, List.getElem?_cons_succ, List.map_cons, List.map_nil, if_true, if_false, Bool.false_eq_true, tru_b, op_nt, op_neg, seqOf_l, seqOf_t, itemsOf_l, itemsOf_t, lends, owned, hasList, Bool.not_false, Bool.not_true, Bool.or_true, Bool.true_or, Bool.or_false, Bool.false_or, Bool.and_true, Bool.true_and, List.all_nil, List.all_cons, true_and, and_true, List.take_zero, List.take_succ_cons, List.take_nil, noCel, isCel, List.length_cons, List.length_nil, List.length_append, List.nil_append, List.cons_append, consts, permute, allM, R.ofO_some, R.ok_bind, List.append_assoc, Nat.zero_add, hb1.nl, op_idx_t, place_0]
    refine history1 (ss := ss) rfl hb1 hsl (by decide) (by decide) (by omega) fun h b2 hh hb2 => ?_
    obtain ⟨sps, es, hsp⟩ := let1 (n := n + 10) hss cu
    simp only [we_lit, we_gl, we_var, we_pk, we_nil, consK_t, we_cons, we_tup, lstK_t, we_lst, we_o1, we_o2, we_and, we_or, we_ife, we_isi, we_sl, we_nob, we_comp, we_rng1, we_rng2, we_enum, we_zip, callK_t, we_call, callkK_t, we_callk, calltK_l, we_callt, c_step, l_step, k_nx, k_rt, k_bk, k_ct, t_nx, t_ct, t_bk, t_rt, ws_nop, ws_seq, ws_ret, ws_retc, ws_retN, ws_asg, celK_l, ws_cel, parK_t, ws_par, ws_unp, ws_ifs, ws_fors, ws_expr, ws_app, ws_setx, ws_brk, ws_cont, ws_frz, getV_v, getV_s, getC_c, getC_s, bindTg_nm, bindTg_t, bindTg_l, bindAll_n, bindAll_c, cellsAt_n, cellsAt_c, ownAll_n, putCells_n, putCells_c, out_rt, out_nx, wp_ok, wp_some, wp_bind, GG_cl, GG_co, List.set_cons_zero, List.set_cons_succ, List.getElem?_cons_zero, List.getElem?_cons_succ, List.map_cons, List.map_nil, if_true, if_false, Bool.false_eq_true, tru_b, op_nt, op_neg, seqOf_l, seqOf_t, itemsOf_l, itemsOf_t, lends, owned, hasList, Bool.not_false, Bool.not_true, Bool.or_true, Bool.true_or, Bool.or_false, Bool.false_or, Bool.and_true, Bool.true_and, List.all_nil, List.all_cons, true_and, and_true, List.take_zero, List.take_succ_cons, List.take_nil, noCel, isCel, List.length_cons, List.length_nil, List.length_append, List.nil_append, List.cons_append, consts, permute, allM, R.ofO_some, R.ok_bind, List.append_assoc, Nat.zero_add, hb2.nl, (flt_his h).nl, es, op_ne_nil, op_int_b, asInt_i]
    have hm : op2 .mul (.int 4) (.int (if (!sps.isEmpty) = true then 1 else 0)) = .ok (.int (4 * if (!sps.isEmpty) = true then 1 else 0)) := op_mul_ii (.inl (by decide))
    simp only [we_lit, we_gl, we_var, we_pk, we_nil, consK_t, we_cons, we_tup, lstK_t, we_lst, we_o1, we_o2, we_and, we_or, we_ife, we_isi, we_sl, we_nob, we_comp, we_rng1, we_rng2, we_enum, we_zip, callK_t, we_call, callkK_t, we_callk, calltK_l, we_callt, c_step, l_step, k_nx, k_rt, k_bk, k_ct, t_nx, t_ct, t_bk, t_rt, ws_nop, ws_seq, ws_ret, ws_retc, ws_retN, ws_asg, celK_l, ws_cel, parK_t, ws_par, ws_unp, ws_ifs, ws_fors, ws_expr, ws_app, ws_setx, ws_brk, ws_cont, ws_frz, getV_v, getV_s, getC_c, getC_s, bindTg_nm, bindTg_t, bindTg_l, bindAll_n, bindAll_c, cellsAt_n, cellsAt_c, ownAll_n, putCells_n, putCells_c, out_rt, out_nx, wp_ok, wp_some, wp_bind, GG_cl, GG_co, List.set_cons_zero, List.set_cons_succ, List.getElem?_cons_zero, List.getElem?_cons_succ, List.map_cons, List.map_nil, if_true, if_false, Bool.false_eq_true, tru_b, op_nt, op_neg, seqOf_l, seqOf_t, itemsOf_l, itemsOf_t, lends, owned, hasList, Bool.not_false, Bool.not_true, Bool.or_true, Bool.true_or, Bool.or_false, Bool.false_or, Bool.and_true, Bool.true_and, List.all_nil, List.all_cons, true_and, and_true, List.take_zero, List.take_succ_cons, List.take_nil, noCel, isCel, List.length_cons, List.length_nil, List.length_append, List.nil_append, List.cons_append, consts, permute, allM, R.ofO_some, R.ok_bind, List.append_assoc, Nat.zero_add, hm, asInt_i]
    refine ⟨by cases sps.isEmpty <;> decide, ?_⟩
    refine for_inv (enc := fun k : Nat => PyData.int (k : Int)) (fun q vs cs => ∃ x6 x7 b', vs = [.c 0, .v (.int (x : Int)), .v (.tuple [spD ss, cuD cu]), .v (.list (six.map .str)), .v (hisD h), .v (.list (sps.map spD)), x6, x7] ∧ cs = [b'] ∧ Bx (k + 5000 * p.length + 2350 + 4 * q.length) b') ⟨_, _, b2, rfl, rfl, hb2.mono (by simp; omega)⟩ (fun q y r' vs cs e' hI => ?_) (fun vs cs hI => ?_)
    · obtain ⟨x6, x7, b3, rfl, rfl, hb3⟩ := hI
      have hq : (q.length : Int) < 4 := by
        have := congrArg List.length e'
        simp at this
        split at this <;> omega
      have hne : sps ≠ [] := by
        intro hs
        rw [hs] at e'
        simp at e'
      simp only [we_lit, we_gl, we_var, we_pk, we_nil, consK_t, we_cons, we_tup, lstK_t, we_lst, we_o1, we_o2, we_and, we_or, we_ife, we_isi, we_sl, we_nob, we_comp, we_rng1, we_rng2, we_enum, we_zip, callK_t, we_call, callkK_t, we_callk, calltK_l, we_callt, c_step, l_step, k_nx, k_rt, k_bk, k_ct, t_nx, t_ct, t_bk, t_rt, ws_nop, ws_seq, ws_ret, ws_retc, ws_retN, ws_asg, celK_l, ws_cel, parK_t, ws_par, ws_unp, ws_ifs, ws_fors, ws_expr, ws_app, ws_setx, ws_brk, ws_cont, ws_frz, getV_v, getV_s, getC_c, getC_s, bindTg_nm, bindTg_t, bindTg_l, bindAll_n, bindAll_c, cellsAt_n, cellsAt_c, ownAll_n, putCells_n, putCells_c, out_rt, out_nx, wp_ok, wp_some, wp_bind, GG_cl, GG_co, List.set_cons_zero, List.set_cons_succ, List.getElem?_cons_zero, List.getElem?_cons_succ, List.map_cons, List.map_nil, if_true, if_false, Bool.false_eq_true, tru_b, op_nt, op_neg, seqOf_l, seqOf_t, itemsOf_l, itemsOf_t, lends, owned, hasList, Bool.not_false, Bool.not_true, Bool.or_true, Bool.true_or, Bool.or_false, Bool.false_or, Bool.and_true, Bool.true_and, List.all_nil, List.all_cons, true_and, and_true, List.take_zero, List.take_succ_cons, List.take_nil, noCel, isCel, List.length_cons, List.length_nil, List.length_append, List.nil_append, List.cons_append, consts, permute, allM, R.ofO_some, R.ok_bind, List.append_assoc, Nat.zero_add]
      refine of1 (val := spD) (xs := sps) hb3 hne (by omega) (by omega) fun s1 b4 _ hb4 => ?_
      simp only [we_lit, we_gl, we_var, we_pk, we_nil, consK_t, we_cons, we_tup, lstK_t, we_lst, we_o1, we_o2, we_and, we_or, we_ife, we_isi, we_sl, we_nob, we_comp, we_rng1, we_rng2, we_enum, we_zip, callK_t, we_call, callkK_t, we_callk, calltK_l, we_callt, c_step, l_step, k_nx, k_rt, k_bk, k_ct, t_nx, t_ct, t_bk, t_rt, ws_nop, ws_seq, ws_ret, ws_retc, ws_retN, ws_asg, celK_l, ws_cel, parK_t, ws_par, ws_unp, ws_ifs, ws_fors, ws_expr, ws_app, ws_setx, ws_brk, ws_cont, ws_frz, getV_v, getV_s, getC_c, getC_s, bindTg_nm, bindTg_t, bindTg_l, bindAll_n, bindAll_c, cellsAt_n, cellsAt_c, ownAll_n, putCells_n, putCells_c, out_rt, out_nx, wp_ok, wp_some, wp_bind, GG_cl, GG_co, List.set_cons_zero, List.set_cons_succ, List.getElem?_cons_zero, List.getElem?_cons_succ, List.map_cons, List.map_nil, if_true, if_false, Bool.false_eq_true, tru_b, op_nt, op_neg, seqOf_l, seqOf_t, itemsOf_l, itemsOf_t, lends, owned, hasList, Bool.not_false, Bool.not_true, Bool.or_true, Bool.true_or, Bool.or_false, Bool.false_or, Bool.and_true, Bool.true_and, List.all_nil, List.all_cons, true_and, and_true, List.take_zero, List.take_succ_cons, List.take_nil, noCel, isCel, List.length_cons, List.length_nil, List.length_append, List.nil_append, List.cons_append, consts, permute, allM, R.ofO_some, R.ok_bind, List.append_assoc, Nat.zero_add, hb4.nl, (flt_sp s1).nl]
      refine of1 (val := PyData.str) (xs := [Str.ofString "ann", Str.ofString "bob", Str.ofString "cy", Str.ofString "zz"]) hb4 (by decide) (by decide) (by omega) fun o1 b5 _ hb5 => ?_
      simp only [we_lit, we_gl, we_var, we_pk, we_nil, consK_t, we_cons, we_tup, lstK_t, we_lst, we_o1, we_o2, we_and, we_or, we_ife, we_isi, we_sl, we_nob, we_comp, we_rng1, we_rng2, we_enum, we_zip, callK_t, we_call, callkK_t, we_callk, calltK_l, we_callt, c_step, l_step, k_nx, k_rt, k_bk, k_ct, t_nx, t_ct, t_bk, t_rt, ws_nop, ws_seq, ws_ret, ws_retc, ws_retN, ws_asg, celK_l, ws_cel, parK_t, ws_par, ws_unp, ws_ifs, ws_fors, ws_expr, ws_app, ws_setx, ws_brk, ws_cont, ws_frz, getV_v, getV_s, getC_c, getC_s, bindTg_nm, bindTg_t, bindTg_l, bindAll_n, bindAll_c, cellsAt_n, cellsAt_c, ownAll_n, putCells_n, putCells_c, out_rt, out_nx, wp_ok, wp_some, wp_bind, GG_cl, GG_co, List.set_cons_zero, List.set_cons_succ, List.getElem?_cons_zero, List.getElem?_cons_succ, List.map_cons, List.map_nil, if_true, if_false, Bool.false_eq_true, tru_b, op_nt, op_neg, seqOf_l, seqOf_t, itemsOf_l, itemsOf_t, lends, owned, hasList, Bool.not_false, Bool.not_true, Bool.or_true, Bool.true_or, Bool.or_false, Bool.false_or, Bool.and_true, Bool.true_and, List.all_nil, List.all_cons, true_and, and_true, List.take_zero, List.take_succ_cons, List.take_nil, noCel, isCel, List.length_cons, List.length_nil, List.length_append, List.nil_append, List.cons_append, consts, permute, allM, R.ofO_some, R.ok_bind, List.append_assoc, Nat.zero_add, hb5.nl]
      refine of1 (val := spD) (xs := sps) hb5 hne (by omega) (by omega) fun s2 b6 _ hb6 => ?_
      simp only [we_lit, we_gl, we_var, we_pk, we_nil, consK_t, we_cons, we_tup, lstK_t, we_lst, we_o1, we_o2, we_and, we_or, we_ife, we_isi, we_sl, we_nob, we_comp, we_rng1, we_rng2, we_enum, we_zip, callK_t, we_call, callkK_t, we_callk, calltK_l, we_callt, c_step, l_step, k_nx, k_rt, k_bk, k_ct, t_nx, t_ct, t_bk, t_rt, ws_nop, ws_seq, ws_ret, ws_retc, ws_retN, ws_asg, celK_l, ws_cel, parK_t, ws_par, ws_unp, ws_ifs, ws_fors, ws_expr, ws_app, ws_setx, ws_brk, ws_cont, ws_frz, getV_v, getV_s, getC_c, getC_s, bindTg_nm, bindTg_t, bindTg_l, bindAll_n, bindAll_c, cellsAt_n, cellsAt_c, ownAll_n, putCells_n, putCells_c, out_rt, out_nx, wp_ok, wp_some, wp_bind, GG_cl, GG_co, List.set_cons_zero, List.set_cons_succ, List.getElem?_cons_zero, List.getElem?_cons_succ, List.map_cons, List.map_nil, if_true, if_false, Bool.false_eq_true, tru_b, op_nt, op_neg, seqOf_l, seqOf_t, itemsOf_l, itemsOf_t, lends, owned, hasList, Bool.not_false, Bool.not_true, Bool.or_true, Bool.true_or, Bool.or_false, Bool.false_or, Bool.and_true, Bool.true_and, List.all_nil, List.all_cons, true_and, and_true, List.take_zero, List.take_succ_cons, List.take_nil, noCel, isCel, List.length_cons, List.length_nil, List.length_append, List.nil_append, List.cons_append, consts, permute, allM, R.ofO_some, R.ok_bind, List.append_assoc, Nat.zero_add, hb6.nl, (flt_sp s2).nl]
      refine of1 (val := PyData.str) (xs := [Str.ofString "ann", Str.ofString "bob", Str.ofString "cy", Str.ofString "zz"]) hb6 (by decide) (by decide) (by omega) fun o2 b7 _ hb7 => ?_
      have ad : op2 .add (.list [spD s1, .str o1]) (.list [spD s2, .str o2]) = .ok (.list [spD s1, .str o1, spD s2, .str o2]) := op_add_ll (by simp only [List.length_cons, List.length_nil, sz]; omega)
      have i0 : op2 .idx (.list [spD s1, .str o1, spD s2, .str o2]) (.int 0) = .ok (spD s1) := rfl
      have i1 : op2 .idx (.list [spD s1, .str o1, spD s2, .str o2]) (.int 1) = .ok (.str o1) := rfl
      have i2 : op2 .idx (.list [spD s1, .str o1, spD s2, .str o2]) (.int 2) = .ok (spD s2) := rfl
      have i3 : op2 .idx (.list [spD s1, .str o1, spD s2, .str o2]) (.int 3) = .ok (.str o2) := rfl
      have cr := case_right1 (n := n) s1 s2 o1 o2 h (by omega)
      simp only [we_lit, we_gl, we_var, we_pk, we_nil, consK_t, we_cons, we_tup, lstK_t, we_lst, we_o1, we_o2, we_and, we_or, we_ife, we_isi, we_sl, we_nob, we_comp, we_rng1, we_rng2, we_enum, we_zip, callK_t, we_call, callkK_t, we_callk, calltK_l, we_callt, c_step, l_step, k_nx, k_rt, k_bk, k_ct, t_nx, t_ct, t_bk, t_rt, ws_nop, ws_seq, ws_ret, ws_retc, ws_retN, ws_asg, celK_l, ws_cel, parK_t, ws_par, ws_unp, ws_ifs, ws_fors, ws_expr, ws_app, ws_setx, ws_brk, ws_cont, ws_frz, getV_v, getV_s, getC_c, getC_s, bindTg_nm, bindTg_t, bindTg_l, bindAll_n, bindAll_c, cellsAt_n, cellsAt_c, ownAll_n, putCells_n, putCells_c, out_rt, out_nx, wp_ok, wp_some, wp_bind, GG_cl, GG_co, List.set_cons_zero, List.set_cons_succ, List.getElem?_cons_zero, List.getElem?_cons_succ, List.map_cons, List.map_nil, if_true, if_false, Bool.false_eq_true, tru_b, op_nt, op_neg, seqOf_l, seqOf_t, itemsOf_l, itemsOf_t, lends, owned, hasList, Bool.not_false, Bool.not_true, Bool.or_true, Bool.true_or, Bool.or_false, Bool.false_or, Bool.and_true, Bool.true_and, List.all_nil, List.all_cons, true_and, and_true, List.take_zero, List.take_succ_cons, List.take_nil, noCel, isCel, List.length_cons, List.length_nil, List.length_append, List.nil_append, List.cons_append, consts, permute, allM, R.ofO_some, R.ok_bind, List.append_assoc, Nat.zero_add, hb7.nl, ad, i0, i1, i2, i3, cr]
      exact ⟨_, _, b7, rfl, rfl, hb7.mono (by push_cast; omega)⟩
    · obtain ⟨x6, x7, b3, rfl, rfl, hb3⟩ := hI
      have hq : ((List.range (4 * if (!sps.isEmpty) = true then (1 : Int) else 0).toNat).length : Int) ≤ 4 := by
        rw [List.length_range]; cases sps.isEmpty <;> decide
      simp only [we_lit, we_gl, we_var, we_pk, we_nil, consK_t, we_cons, we_tup, lstK_t, we_lst, we_o1, we_o2, we_and, we_or, we_ife, we_isi, we_sl, we_nob, we_comp, we_rng1, we_rng2, we_enum, we_zip, callK_t, we_call, callkK_t, we_callk, calltK_l, we_callt, c_step, l_step, k_nx, k_rt, k_bk, k_ct, t_nx, t_ct, t_bk, t_rt, ws_nop, ws_seq, ws_ret, ws_retc, ws_retN, ws_asg, celK_l, ws_cel, parK_t, ws_par, ws_unp, ws_ifs, ws_fors, ws_expr, ws_app, ws_setx, ws_brk, ws_cont, ws_frz, getV_v, getV_s, getC_c, getC_s, bindTg_nm, bindTg_t, bindTg_l, bindAll_n, bindAll_c, cellsAt_n, cellsAt_c, ownAll_n, putCells_n, putCells_c, out_rt, out_nx, wp_ok, wp_some, wp_bind, GG_cl, GG_co, List.set_cons_zero, List.set_cons_succ, List.getElem?_cons_zero, List.getElem?_cons_succ, List.map_cons, List.map_nil, if_true, if_false, Bool.false_eq_true, tru_b, op_nt, op_neg, seqOf_l, seqOf_t, itemsOf_l, itemsOf_t, lends, owned, hasList, Bool.not_false, Bool.not_true, Bool.or_true, Bool.true_or, Bool.or_false, Bool.false_or, Bool.and_true, Bool.true_and, List.all_nil, List.all_cons, true_and, and_true, List.take_zero, List.take_succ_cons, List.take_nil, noCel, isCel, List.length_cons, List.length_nil, List.length_append, List.nil_append, List.cons_append, consts, permute, allM, R.ofO_some, R.ok_bind, List.append_assoc, Nat.zero_add]
      exact ⟨_, _, _, _, _, _, _, b3, rfl, rfl, hb3.mono (by push_cast; omega)⟩
  · obtain ⟨x1, x2, x3, x4, x5, x6, x7, b0, rfl, rfl, hb0⟩ := hI
    simp only [we_lit, we_gl, we_var, we_pk, we_nil, consK_t, we_cons, we_tup, lstK_t, we_lst, we_o1, we_o2, we_and, we_or, we_ife, we_isi, we_sl, we_nob, we_comp, we_rng1, we_rng2, we_enum, we_zip, callK_t, we_call, callkK_t, we_callk, calltK_l, we_callt, c_step, l_step, k_nx, k_rt, k_bk, k_ct, t_nx, t_ct, t_bk, t_rt, ws_nop, ws_seq, ws_ret, ws_retc, ws_retN, ws_asg, celK_l, ws_cel, parK_t, ws_par, ws_unp, ws_ifs, ws_fors, ws_expr, ws_app, ws_setx, ws_brk, ws_cont, ws_frz, getV_v, getV_s, getC_c, getC_s, bindTg_nm, bindTg_t, bindTg_l, bindAll_n, bindAll_c, cellsAt_n, cellsAt_c, ownAll_n, putCells_n, putCells_c, out_rt, out_nx, wp_ok, wp_some, wp_bind, GG_cl, GG_co, List.set_cons_zero, List.set_cons_succ, List.getElem?_cons_zero, List.getElem?_cons_succ, List.map_cons, List.map_nil, if_true, if_false, Bool.false_eq_true, tru_b, op_nt, op_neg, seqOf_l, seqOf_t, itemsOf_l, itemsOf_t, lends, owned, hasList, Bool.not_false, Bool.not_true, Bool.or_true, Bool.true_or, Bool.or_false, Bool.false_or, Bool.and_true, Bool.true_and, List.all_nil, List.all_cons, true_and, and_true, List.take_zero, List.take_succ_cons, List.take_nil, noCel, isCel, List.length_cons, List.length_nil, List.length_append, List.nil_append, List.cons_append, consts, permute, allM, R.ofO_some, R.ok_bind, List.append_assoc, Nat.zero_add]
    exact hQ b0
theorem cut_head (ns : List Int) : slD none (some 3) (.list (ns.map .int)) = .ok (.list ((ns.take 3).map .int)) := by
  have : min 3 (ns.map PyData.int).length - 0 = min 3 ns.length := by simp
  simp only [slD, cutD, cutIx, List.drop_zero]
  rw [if_pos (by decide)]
  simp only [List.map_take, List.length_map, Nat.sub_zero]
  congr 2
  rw [show (3 : Int).toNat = 3 from rfl, show min 3 ns.length = min 3 (ns.map PyData.int).length by simp, ← List.take_eq_take_min]
theorem cut_tail (ns : List Int) : ∃ ys : List Int, slD (some 3) (some 63) (.list (ns.map .int)) = .ok (.list (ys.map .int)) ∧ ys.length ≤ 60 ∧ (ys ≠ [] → 3 < ns.length) := by
  refine ⟨(ns.drop (min 3 ns.length)).take (min 63 ns.length - min 3 ns.length), ?_, ?_, ?_⟩
  · simp only [slD, cutD, cutIx]
    rw [if_pos (by decide), if_pos (by decide)]
    simp only [List.length_map, List.map_take, List.map_drop]
    rfl
  · rw [List.length_take]; omega
  · intro h
    have : 0 < ((ns.drop (min 3 ns.length)).take (min 63 ns.length - min 3 ns.length)).length := List.length_pos_iff.mpr h
    rw [List.length_take, List.length_drop] at this
    omega
theorem numbered_int (ys : List Int) : numbered (ys.map .int) = ys.zipIdx.map fun p => .tuple [.int (p.2 : Int), .int p.1] := by
  unfold numbered
  rw [List.zipIdx_map, List.map_map]
  rfl
theorem place_mod {L i : Nat} (h : i < L) : place L (i : Int) = some i := by rw [place_ok (by omega) (by omega)]; rfl
theorem cells1 {n : Nat} {Q : D × Cs → Prop} (ns : List Int) (hQ : ∀ is : List Int, is.length ≤ 3 → Q (.list (is.map .int), [])) : wp (evC prog (n + 1) 16 [.list (ns.map .int), .int 3] []) Q := by
  refine c_law_cells ?_
  obtain ⟨ys, ey, hy, hy3⟩ := cut_tail ns
  simp only [we_lit, we_gl, we_var, we_pk, we_nil, consK_t, we_cons, we_tup, lstK_t, we_lst, we_o1, we_o2, we_and, we_or, we_ife, we_isi, we_sl, we_nob, we_comp, we_rng1, we_rng2, we_enum, we_zip, callK_t, we_call, callkK_t, we_callk, calltK_l, we_callt, c_step, l_step, k_nx, k_rt, k_bk, k_ct, t_nx, t_ct, t_bk, t_rt, ws_nop, ws_seq, ws_ret, ws_retc, ws_retN, ws_asg, celK_l, ws_cel, parK_t, ws_par, ws_unp, ws_ifs, ws_fors, ws_expr, ws_app, ws_setx, ws_brk, ws_cont, ws_frz, getV_v, getV_s, getC_c, getC_s, bindTg_nm, bindTg_t, bindTg_l, bindAll_n, bindAll_c, cellsAt_n, cellsAt_c, ownAll_n, putCells_n, putCells_c, out_rt, out_nx, wp_ok, wp_some, wp_bind, GG_cl, GG_co, List.set_cons_zero, List.set_cons_succ, List.getElem?_cons_zero, List.getElem?_cons_succ, List.map_cons, List.map_nil, if_true, if_false, Bool.false_eq_true, tru_b, op_nt, op_neg, seqOf_l, seqOf_t, itemsOf_l, itemsOf_t, lends, owned, hasList, Bool.not_false, Bool.not_true, Bool.or_true, Bool.true_or, Bool.or_false, Bool.false_or, Bool.and_true, Bool.true_and, List.all_nil, List.all_cons, true_and, and_true, List.take_zero, List.take_succ_cons, List.take_nil, noCel, isCel, List.length_cons, List.length_nil, List.length_append, List.nil_append, List.cons_append, consts, permute, allM, R.ofO_some, R.ok_bind, List.append_assoc, Nat.zero_add, b_law_cells, evE.bnd, cut_head, ey, op_lst_l]
  have go : ∀ is : List Int, is.length ≤ 3 → (ys ≠ [] → is.length = 3) → wp (forLoop (loopF (GG n) 0 (.tp [3, 4]) (.seq (.asg 5 (.o2 .mod (.o1 .int (.var 3)) (.var 1))) (.setx 2 (.var 5) (.o2 .add (.o2 .idx (.pk 2) (.var 5)) (.o2 .mul (.var 4) (.o2 .add (.var 3) (.lit (.int 2)))))))) (numbered (ys.map .int)) [.v (.list (ns.map .int)), .v (.int 3), .c 0, .un, .un, .un] [is.map .int]) (contK (evS (GG n) 0 (.retc 2)) (fun r => wp (outOf 0 r) Q)) := fun is his hi3 => by
    rw [numbered_int]
    refine for_inv (fun p vs cs => ∃ x3 x4 x5 js, vs = [.v (.list (ns.map .int)), .v (.int 3), .c 0, x3, x4, x5] ∧ cs = [List.map PyData.int js] ∧ js.length = is.length) ⟨_, _, _, is, rfl, rfl, rfl⟩ (fun p x r vs cs e hI => ?_) (fun vs cs hI => ?_)
    · obtain ⟨x3, x4, x5, js, rfl, rfl, hj⟩ := hI
      obtain ⟨v, i⟩ := x
      have hx : (v, i) ∈ ys.zipIdx := by rw [e]; simp
      have hi : i < ys.length := by have := List.mem_zipIdx hx; omega
      have hl : js.length = 3 := by rw [hj]; exact hi3 (by intro h; rw [h] at hi; simp at hi)
      have m1 : op2 .mod (.int (i : Int)) (.int 3) = .ok (.int ((i % 3 : Nat) : Int)) := by rw [op_mod_ii (by decide)]; rfl
      have pl : place js.length ((i % 3 : Nat) : Int) = some (i % 3) := place_mod (by omega)
      have gt : js[i % 3]? = some js[i % 3] := List.getElem?_eq_getElem (by omega)
      have m2 : op2 .mul (.int v) (.int ((i : Int) + 2)) = .ok (.int (v * ((i : Int) + 2))) := op_mul_ii (.inr (by omega))
      simp only [we_lit, we_gl, we_var, we_pk, we_nil, consK_t, we_cons, we_tup, lstK_t, we_lst, we_o1, we_o2, we_and, we_or, we_ife, we_isi, we_sl, we_nob, we_comp, we_rng1, we_rng2, we_enum, we_zip, callK_t, we_call, callkK_t, we_callk, calltK_l, we_callt, c_step, l_step, k_nx, k_rt, k_bk, k_ct, t_nx, t_ct, t_bk, t_rt, ws_nop, ws_seq, ws_ret, ws_retc, ws_retN, ws_asg, celK_l, ws_cel, parK_t, ws_par, ws_unp, ws_ifs, ws_fors, ws_expr, ws_app, ws_setx, ws_brk, ws_cont, ws_frz, getV_v, getV_s, getC_c, getC_s, bindTg_nm, bindTg_t, bindTg_l, bindAll_n, bindAll_c, cellsAt_n, cellsAt_c, ownAll_n, putCells_n, putCells_c, out_rt, out_nx, wp_ok, wp_some, wp_bind, GG_cl, GG_co, List.set_cons_zero, List.set_cons_succ, List.getElem?_cons_zero, List.getElem?_cons_succ, List.map_cons, List.map_nil, if_true, if_false, Bool.false_eq_true, tru_b, op_nt, op_neg, seqOf_l, seqOf_t, itemsOf_l, itemsOf_t, lends, owned, hasList, Bool.not_false, Bool.not_true, Bool.or_true, Bool.true_or, Bool.or_false, Bool.false_or, Bool.and_true, Bool.true_and, List.all_nil, List.all_cons, true_and, and_true, List.take_zero, List.take_succ_cons, List.take_nil, noCel, isCel, List.length_cons, List.length_nil, List.length_append, List.nil_append, List.cons_append, consts, permute, allM, R.ofO_some, R.ok_bind, List.append_assoc, Nat.zero_add, op_int_i, m1, op_add_ii, m2, op_idx_l, List.length_map, pl, List.getElem?_map, gt, Option.map_some, asInt_i]
      exact ⟨_, _, _, js.set (i % 3) (js[i % 3] + v * ((i : Int) + 2)), rfl, by rw [List.map_set], by rw [List.length_set]; exact hj⟩
    · obtain ⟨x3, x4, x5, js, rfl, rfl, hj⟩ := hI
      simp only [we_lit, we_gl, we_var, we_pk, we_nil, consK_t, we_cons, we_tup, lstK_t, we_lst, we_o1, we_o2, we_and, we_or, we_ife, we_isi, we_sl, we_nob, we_comp, we_rng1, we_rng2, we_enum, we_zip, callK_t, we_call, callkK_t, we_callk, calltK_l, we_callt, c_step, l_step, k_nx, k_rt, k_bk, k_ct, t_nx, t_ct, t_bk, t_rt, ws_nop, ws_seq, ws_ret, ws_retc, ws_retN, ws_asg, celK_l, ws_cel, parK_t, ws_par, ws_unp, ws_ifs, ws_fors, ws_expr, ws_app, ws_setx, ws_brk, ws_cont, ws_frz, getV_v, getV_s, getC_c, getC_s, bindTg_nm, bindTg_t, bindTg_l, bindAll_n, bindAll_c, cellsAt_n, cellsAt_c, ownAll_n, putCells_n, putCells_c, out_rt, out_nx, wp_ok, wp_some, wp_bind, GG_cl, GG_co, List.set_cons_zero, List.set_cons_succ, List.getElem?_cons_zero, List.getElem?_cons_succ, List.map_cons, List.map_nil, if_true, if_false, Bool.false_eq_true, tru_b, op_nt, op_neg, seqOf_l, seqOf_t, itemsOf_l, itemsOf_t, lends, owned, hasList, Bool.not_false, Bool.not_true, Bool.or_true, Bool.true_or, Bool.or_false, Bool.false_or, Bool.and_true, Bool.true_and, List.all_nil, List.all_cons, true_and, and_true, List.take_zero, List.take_succ_cons, List.take_nil, noCel, isCel, List.length_cons, List.length_nil, List.length_append, List.nil_append, List.cons_append, consts, permute, allM, R.ofO_some, R.ok_bind, List.append_assoc, Nat.zero_add]
      exact ⟨Nat.zero_le _, hQ js (by omega)⟩
  have tr : ∀ l : List Int, tru (.list (l.map .int)) = .ok (!l.isEmpty) := fun l => by cases l <;> rfl
  rw [tr]
  simp only [we_lit, we_gl, we_var, we_pk, we_nil, consK_t, we_cons, we_tup, lstK_t, we_lst, we_o1, we_o2, we_and, we_or, we_ife, we_isi, we_sl, we_nob, we_comp, we_rng1, we_rng2, we_enum, we_zip, callK_t, we_call, callkK_t, we_callk, calltK_l, we_callt, c_step, l_step, k_nx, k_rt, k_bk, k_ct, t_nx, t_ct, t_bk, t_rt, ws_nop, ws_seq, ws_ret, ws_retc, ws_retN, ws_asg, celK_l, ws_cel, parK_t, ws_par, ws_unp, ws_ifs, ws_fors, ws_expr, ws_app, ws_setx, ws_brk, ws_cont, ws_frz, getV_v, getV_s, getC_c, getC_s, bindTg_nm, bindTg_t, bindTg_l, bindAll_n, bindAll_c, cellsAt_n, cellsAt_c, ownAll_n, putCells_n, putCells_c, out_rt, out_nx, wp_ok, wp_some, wp_bind, GG_cl, GG_co, List.set_cons_zero, List.set_cons_succ, List.getElem?_cons_zero, List.getElem?_cons_succ, List.map_cons, List.map_nil, if_true, if_false, Bool.false_eq_true, tru_b, op_nt, op_neg, seqOf_l, seqOf_t, itemsOf_l, itemsOf_t, lends, owned, hasList, Bool.not_false, Bool.not_true, Bool.or_true, Bool.true_or, Bool.or_false, Bool.false_or, Bool.and_true, Bool.true_and, List.all_nil, List.all_cons, true_and, and_true, List.take_zero, List.take_succ_cons, List.take_nil, noCel, isCel, List.length_cons, List.length_nil, List.length_append, List.nil_append, List.cons_append, consts, permute, allM, R.ofO_some, R.ok_bind, List.append_assoc, Nat.zero_add]
  by_cases hn : ns.take 3 = []
  · rw [hn]
    simp only [we_lit, we_gl, we_var, we_pk, we_nil, consK_t, we_cons, we_tup, lstK_t, we_lst, we_o1, we_o2, we_and, we_or, we_ife, we_isi, we_sl, we_nob, we_comp, we_rng1, we_rng2, we_enum, we_zip, callK_t, we_call, callkK_t, we_callk, calltK_l, we_callt, c_step, l_step, k_nx, k_rt, k_bk, k_ct, t_nx, t_ct, t_bk, t_rt, ws_nop, ws_seq, ws_ret, ws_retc, ws_retN, ws_asg, celK_l, ws_cel, parK_t, ws_par, ws_unp, ws_ifs, ws_fors, ws_expr, ws_app, ws_setx, ws_brk, ws_cont, ws_frz, getV_v, getV_s, getC_c, getC_s, bindTg_nm, bindTg_t, bindTg_l, bindAll_n, bindAll_c, cellsAt_n, cellsAt_c, ownAll_n, putCells_n, putCells_c, out_rt, out_nx, wp_ok, wp_some, wp_bind, GG_cl, GG_co, List.set_cons_zero, List.set_cons_succ, List.getElem?_cons_zero, List.getElem?_cons_succ, List.map_cons, List.map_nil, if_true, if_false, Bool.false_eq_true, tru_b, op_nt, op_neg, seqOf_l, seqOf_t, itemsOf_l, itemsOf_t, lends, owned, hasList, Bool.not_false, Bool.not_true, Bool.or_true, Bool.true_or, Bool.or_false, Bool.false_or, Bool.and_true, Bool.true_and, List.all_nil, List.all_cons, true_and, and_true, List.take_zero, List.take_succ_cons, List.take_nil, noCel, isCel, List.length_cons, List.length_nil, List.length_append, List.nil_append, List.cons_append, consts, permute, allM, R.ofO_some, R.ok_bind, List.append_assoc, Nat.zero_add, List.isEmpty_nil]
    have h0 : ns = [] := by
      cases ns with
      | nil => rfl
      | cons x ns => simp at hn
    exact go [0] (by decide) (fun h => by have := hy3 h; rw [h0] at this; simp at this)
  · have : (ns.take 3).isEmpty = false := by rw [List.isEmpty_eq_false_iff]; exact hn
    simp only [we_lit, we_gl, we_var, we_pk, we_nil, consK_t, we_cons, we_tup, lstK_t, we_lst, we_o1, we_o2, we_and, we_or, we_ife, we_isi, we_sl, we_nob, we_comp, we_rng1, we_rng2, we_enum, we_zip, callK_t, we_call, callkK_t, we_callk, calltK_l, we_callt, c_step, l_step, k_nx, k_rt, k_bk, k_ct, t_nx, t_ct, t_bk, t_rt, ws_nop, ws_seq, ws_ret, ws_retc, ws_retN, ws_asg, celK_l, ws_cel, parK_t, ws_par, ws_unp, ws_ifs, ws_fors, ws_expr, ws_app, ws_setx, ws_brk, ws_cont, ws_frz, getV_v, getV_s, getC_c, getC_s, bindTg_nm, bindTg_t, bindTg_l, bindAll_n, bindAll_c, cellsAt_n, cellsAt_c, ownAll_n, putCells_n, putCells_c, out_rt, out_nx, wp_ok, wp_some, wp_bind, GG_cl, GG_co, List.set_cons_zero, List.set_cons_succ, List.getElem?_cons_zero, List.getElem?_cons_succ, List.map_cons, List.map_nil, if_true, if_false, Bool.false_eq_true, tru_b, op_nt, op_neg, seqOf_l, seqOf_t, itemsOf_l, itemsOf_t, lends, owned, hasList, Bool.not_false, Bool.not_true, Bool.or_true, Bool.true_or, Bool.or_false, Bool.false_or, Bool.and_true, Bool.true_and, List.all_nil, List.all_cons, true_and, and_true, List.take_zero, List.take_succ_cons, List.take_nil, noCel, isCel, List.length_cons, List.length_nil, List.length_append, List.nil_append, List.cons_append, consts, permute, allM, R.ofO_some, R.ok_bind, List.append_assoc, Nat.zero_add, this]
    exact go (ns.take 3) (by rw [List.length_take]; omega) (fun h => by have := hy3 h; rw [List.length_take]; omega)
theorem box1 {n : Nat} {Q : D × Cs → Prop} (is : List Int) (i : Nat) (hi : i < is.length) (h3 : is.length ≤ 3) (hQ : ∀ b, Bx 0 b → Q (.list b, [])) : wp (evC prog (n + 1) 14 [.list (is.map .int), .int (i : Int)] []) Q := by
  refine c_law_box ?_
  have hl : decide ((i : Int) < (is.length : Int)) = true := decide_eq_true (by omega)
  have pl : place is.length (i : Int) = some i := place_mod hi
  have gt : is[i]? = some is[i] := List.getElem?_eq_getElem hi
  have m1 : ∀ x : Int, op2 .mul (.int x) (.int (if decide (1000000000000000000 ≤ x) = true then 1 else 0)) = .ok (.int (x * if decide (1000000000000000000 ≤ x) = true then 1 else 0)) := fun x => op_mul_ii (.inr (by split <;> decide))
  have m2 : op2 .mul (.int 39373) (.int (i : Int)) = .ok (.int (39373 * (i : Int))) := op_mul_ii (.inl (by decide))
  have m3 : ∀ x : Int, op2 .mod (.int x) (.int 2305843009213693951) = .ok (.int (x % 2305843009213693951)) := fun x => op_mod_ii (by decide)
  simp only [we_lit, we_gl, we_var, we_pk, we_nil, consK_t, we_cons, we_tup, lstK_t, we_lst, we_o1, we_o2, we_and, we_or, we_ife, we_isi, we_sl, we_nob, we_comp, we_rng1, we_rng2, we_enum, we_zip, callK_t, we_call, callkK_t, we_callk, calltK_l, we_callt, c_step, l_step, k_nx, k_rt, k_bk, k_ct, t_nx, t_ct, t_bk, t_rt, ws_nop, ws_seq, ws_ret, ws_retc, ws_retN, ws_asg, celK_l, ws_cel, parK_t, ws_par, ws_unp, ws_ifs, ws_fors, ws_expr, ws_app, ws_setx, ws_brk, ws_cont, ws_frz, getV_v, getV_s, getC_c, getC_s, bindTg_nm, bindTg_t, bindTg_l, bindAll_n, bindAll_c, cellsAt_n, cellsAt_c, ownAll_n, putCells_n, putCells_c, out_rt, out_nx, wp_ok, wp_some, wp_bind, GG_cl, GG_co, List.set_cons_zero, List.set_cons_succ, List.getElem?_cons_zero, List.getElem?_cons_succ, List.map_cons, List.map_nil, if_true, if_false, Bool.false_eq_true, tru_b, op_nt, op_neg, seqOf_l, seqOf_t, itemsOf_l, itemsOf_t, lends, owned, hasList, Bool.not_false, Bool.not_true, Bool.or_true, Bool.true_or, Bool.or_false, Bool.false_or, Bool.and_true, Bool.true_and, List.all_nil, List.all_cons, true_and, and_true, List.take_zero, List.take_succ_cons, List.take_nil, noCel, isCel, List.length_cons, List.length_nil, List.length_append, List.nil_append, List.cons_append, consts, permute, allM, R.ofO_some, R.ok_bind, List.append_assoc, Nat.zero_add, b_law_box, op_lt_ii, op_len_l, List.length_map, hl, op_idx_l, pl, List.getElem?_map, gt, Option.map_some, op_abs, op_int_i, op_pow18, op_ge_ii, op_int_b, m1, m2, m3, op_add_ii]
  exact hQ _ ⟨_, _, _, rfl, by decide, by decide⟩
theorem byhand : evC prog 23 36 [] [] = .ok (.bool true, []) := by kernel_rfl
theorem law1 (ns : List Int) : evC prog 24 lawId [.list (ns.map .int)] [] = .ok (.bool true, []) := by
  refine eq_of_wp (c_law (n := 23) ?_)
  simp only [we_lit, we_gl, we_var, we_pk, we_nil, consK_t, we_cons, we_tup, lstK_t, we_lst, we_o1, we_o2, we_and, we_or, we_ife, we_isi, we_sl, we_nob, we_comp, we_rng1, we_rng2, we_enum, we_zip, callK_t, we_call, callkK_t, we_callk, calltK_l, we_callt, c_step, l_step, k_nx, k_rt, k_bk, k_ct, t_nx, t_ct, t_bk, t_rt, ws_nop, ws_seq, ws_ret, ws_retc, ws_retN, ws_asg, celK_l, ws_cel, parK_t, ws_par, ws_unp, ws_ifs, ws_fors, ws_expr, ws_app, ws_setx, ws_brk, ws_cont, ws_frz, getV_v, getV_s, getC_c, getC_s, bindTg_nm, bindTg_t, bindTg_l, bindAll_n, bindAll_c, cellsAt_n, cellsAt_c, ownAll_n, putCells_n, putCells_c, out_rt, out_nx, wp_ok, wp_some, wp_bind, GG_cl, GG_co, List.set_cons_zero, List.set_cons_succ, List.getElem?_cons_zero, List.getElem?_cons_succ, List.map_cons, List.map_nil, if_true, if_false, Bool.false_eq_true, tru_b, op_nt, op_neg, seqOf_l, seqOf_t, itemsOf_l, itemsOf_t, lends, owned, hasList, Bool.not_false, Bool.not_true, Bool.or_true, Bool.true_or, Bool.or_false, Bool.false_or, Bool.and_true, Bool.true_and, List.all_nil, List.all_cons, true_and, and_true, List.take_zero, List.take_succ_cons, List.take_nil, noCel, isCel, List.length_cons, List.length_nil, List.length_append, List.nil_append, List.cons_append, consts, permute, allM, R.ofO_some, R.ok_bind, List.append_assoc, Nat.zero_add, b_law, byhand]
  refine cells1 ns fun is his => ?_
  simp only [we_lit, we_gl, we_var, we_pk, we_nil, consK_t, we_cons, we_tup, lstK_t, we_lst, we_o1, we_o2, we_and, we_or, we_ife, we_isi, we_sl, we_nob, we_comp, we_rng1, we_rng2, we_enum, we_zip, callK_t, we_call, callkK_t, we_callk, calltK_l, we_callt, c_step, l_step, k_nx, k_rt, k_bk, k_ct, t_nx, t_ct, t_bk, t_rt, ws_nop, ws_seq, ws_ret, ws_retc, ws_retN, ws_asg, celK_l, ws_cel, parK_t, ws_par, ws_unp, ws_ifs, ws_fors, ws_expr, ws_app, ws_setx, ws_brk, ws_cont, ws_frz, getV_v, getV_s, getC_c, getC_s, bindTg_nm, bindTg_t, bindTg_l, bindAll_n, bindAll_c, cellsAt_n, cellsAt_c, ownAll_n, putCells_n, putCells_c, out_rt, out_nx, wp_ok, wp_some, wp_bind, GG_cl, GG_co, List.set_cons_zero, List.set_cons_succ, List.getElem?_cons_zero, List.getElem?_cons_succ, List.map_cons, List.map_nil, if_true, if_false, Bool.false_eq_true, tru_b, op_nt, op_neg, seqOf_l, seqOf_t, itemsOf_l, itemsOf_t, lends, owned, hasList, Bool.not_false, Bool.not_true, Bool.or_true, Bool.true_or, Bool.or_false, Bool.false_or, Bool.and_true, Bool.true_and, List.all_nil, List.all_cons, true_and, and_true, List.take_zero, List.take_succ_cons, List.take_nil, noCel, isCel, List.length_cons, List.length_nil, List.length_append, List.nil_append, List.cons_append, consts, permute, allM, R.ofO_some, R.ok_bind, List.append_assoc, Nat.zero_add, op_len_l, asInt_i, List.length_map]
  refine ⟨by simp only [sz]; omega, ?_⟩
  refine comp_map (enc := fun k : Nat => PyData.int (k : Int)) (fun _ => .bool true) (fun i hi => ?_) ?_
  · rw [List.mem_range] at hi
    simp only [we_lit, we_gl, we_var, we_pk, we_nil, consK_t, we_cons, we_tup, lstK_t, we_lst, we_o1, we_o2, we_and, we_or, we_ife, we_isi, we_sl, we_nob, we_comp, we_rng1, we_rng2, we_enum, we_zip, callK_t, we_call, callkK_t, we_callk, calltK_l, we_callt, c_step, l_step, k_nx, k_rt, k_bk, k_ct, t_nx, t_ct, t_bk, t_rt, ws_nop, ws_seq, ws_ret, ws_retc, ws_retN, ws_asg, celK_l, ws_cel, parK_t, ws_par, ws_unp, ws_ifs, ws_fors, ws_expr, ws_app, ws_setx, ws_brk, ws_cont, ws_frz, getV_v, getV_s, getC_c, getC_s, bindTg_nm, bindTg_t, bindTg_l, bindAll_n, bindAll_c, cellsAt_n, cellsAt_c, ownAll_n, putCells_n, putCells_c, out_rt, out_nx, wp_ok, wp_some, wp_bind, GG_cl, GG_co, List.set_cons_zero, List.set_cons_succ, List.getElem?_cons_zero, List.getElem?_cons_succ, List.map_cons, List.map_nil, if_true, if_false, Bool.false_eq_true, tru_b, op_nt, op_neg, seqOf_l, seqOf_t, itemsOf_l, itemsOf_t, lends, owned, hasList, Bool.not_false, Bool.not_true, Bool.or_true, Bool.true_or, Bool.or_false, Bool.false_or, Bool.and_true, Bool.true_and, List.all_nil, List.all_cons, true_and, and_true, List.take_zero, List.take_succ_cons, List.take_nil, noCel, isCel, List.length_cons, List.length_nil, List.length_append, List.nil_append, List.cons_append, consts, permute, allM, R.ofO_some, R.ok_bind, List.append_assoc, Nat.zero_add]
    refine box1 is i (by omega) his fun b hb => ?_
    simp only [we_lit, we_gl, we_var, we_pk, we_nil, consK_t, we_cons, we_tup, lstK_t, we_lst, we_o1, we_o2, we_and, we_or, we_ife, we_isi, we_sl, we_nob, we_comp, we_rng1, we_rng2, we_enum, we_zip, callK_t, we_call, callkK_t, we_callk, calltK_l, we_callt, c_step, l_step, k_nx, k_rt, k_bk, k_ct, t_nx, t_ct, t_bk, t_rt, ws_nop, ws_seq, ws_ret, ws_retc, ws_retN, ws_asg, celK_l, ws_cel, parK_t, ws_par, ws_unp, ws_ifs, ws_fors, ws_expr, ws_app, ws_setx, ws_brk, ws_cont, ws_frz, getV_v, getV_s, getC_c, getC_s, bindTg_nm, bindTg_t, bindTg_l, bindAll_n, bindAll_c, cellsAt_n, cellsAt_c, ownAll_n, putCells_n, putCells_c, out_rt, out_nx, wp_ok, wp_some, wp_bind, GG_cl, GG_co, List.set_cons_zero, List.set_cons_succ, List.getElem?_cons_zero, List.getElem?_cons_succ, List.map_cons, List.map_nil, if_true, if_false, Bool.false_eq_true, tru_b, op_nt, op_neg, seqOf_l, seqOf_t, itemsOf_l, itemsOf_t, lends, owned, hasList, Bool.not_false, Bool.not_true, Bool.or_true, Bool.true_or, Bool.or_false, Bool.false_or, Bool.and_true, Bool.true_and, List.all_nil, List.all_cons, true_and, and_true, List.take_zero, List.take_succ_cons, List.take_nil, noCel, isCel, List.length_cons, List.length_nil, List.length_append, List.nil_append, List.cons_append, consts, permute, allM, R.ofO_some, R.ok_bind, List.append_assoc, Nat.zero_add]
    refine right1 hb (by decide) fun b' => ?_
    simp only [we_lit, we_gl, we_var, we_pk, we_nil, consK_t, we_cons, we_tup, lstK_t, we_lst, we_o1, we_o2, we_and, we_or, we_ife, we_isi, we_sl, we_nob, we_comp, we_rng1, we_rng2, we_enum, we_zip, callK_t, we_call, callkK_t, we_callk, calltK_l, we_callt, c_step, l_step, k_nx, k_rt, k_bk, k_ct, t_nx, t_ct, t_bk, t_rt, ws_nop, ws_seq, ws_ret, ws_retc, ws_retN, ws_asg, celK_l, ws_cel, parK_t, ws_par, ws_unp, ws_ifs, ws_fors, ws_expr, ws_app, ws_setx, ws_brk, ws_cont, ws_frz, getV_v, getV_s, getC_c, getC_s, bindTg_nm, bindTg_t, bindTg_l, bindAll_n, bindAll_c, cellsAt_n, cellsAt_c, ownAll_n, putCells_n, putCells_c, out_rt, out_nx, wp_ok, wp_some, wp_bind, GG_cl, GG_co, List.set_cons_zero, List.set_cons_succ, List.getElem?_cons_zero, List.getElem?_cons_succ, List.map_cons, List.map_nil, if_true, if_false, Bool.false_eq_true, tru_b, op_nt, op_neg, seqOf_l, seqOf_t, itemsOf_l, itemsOf_t, lends, owned, hasList, Bool.not_false, Bool.not_true, Bool.or_true, Bool.true_or, Bool.or_false, Bool.false_or, Bool.and_true, Bool.true_and, List.all_nil, List.all_cons, true_and, and_true, List.take_zero, List.take_succ_cons, List.take_nil, noCel, isCel, List.length_cons, List.length_nil, List.length_append, List.nil_append, List.cons_append, consts, permute, allM, R.ofO_some, R.ok_bind, List.append_assoc, Nat.zero_add]
  · have : ∀ l : List Nat, op1 .all (.list (l.map fun _ => PyData.bool true)) = .ok (.bool true) := fun l => by
      have : ∀ l : List Nat, allM asBool (l.map fun _ => PyData.bool true) = .ok (l.map fun _ => true) := fun l => by
        induction l with
        | nil => rfl
        | cons y l ih => simp only [List.map_cons, allM, asBool, ih, R.ok_bind]
      simp only [op1, this, R.ok_bind]
      congr 2
      simp
    simp only [we_lit, we_gl, we_var, we_pk, we_nil, consK_t, we_cons, we_tup, lstK_t, we_lst, we_o1, we_o2, we_and, we_or, we_ife, we_isi, we_sl, we_nob, we_comp, we_rng1, we_rng2, we_enum, we_zip, callK_t, we_call, callkK_t, we_callk, calltK_l, we_callt, c_step, l_step, k_nx, k_rt, k_bk, k_ct, t_nx, t_ct, t_bk, t_rt, ws_nop, ws_seq, ws_ret, ws_retc, ws_retN, ws_asg, celK_l, ws_cel, parK_t, ws_par, ws_unp, ws_ifs, ws_fors, ws_expr, ws_app, ws_setx, ws_brk, ws_cont, ws_frz, getV_v, getV_s, getC_c, getC_s, bindTg_nm, bindTg_t, bindTg_l, bindAll_n, bindAll_c, cellsAt_n, cellsAt_c, ownAll_n, putCells_n, putCells_c, out_rt, out_nx, wp_ok, wp_some, wp_bind, GG_cl, GG_co, List.set_cons_zero, List.set_cons_succ, List.getElem?_cons_zero, List.getElem?_cons_succ, List.map_cons, List.map_nil, if_true, if_false, Bool.false_eq_true, tru_b, op_nt, op_neg, seqOf_l, seqOf_t, itemsOf_l, itemsOf_t, lends, owned, hasList, Bool.not_false, Bool.not_true, Bool.or_true, Bool.true_or, Bool.or_false, Bool.false_or, Bool.and_true, Bool.true_and, List.all_nil, List.all_cons, true_and, and_true, List.take_zero, List.take_succ_cons, List.take_nil, noCel, isCel, List.length_cons, List.length_nil, List.length_append, List.nil_append, List.cons_append, consts, permute, allM, R.ofO_some, R.ok_bind, List.append_assoc, Nat.zero_add, this]
end LP
set_option maxRecDepth 100000 in
set_option maxHeartbeats 8000000 in
theorem PySem.Challenge.cw_landpoints_k18_ways_between_two_points_holds : PySem.Challenge.rw_landpoints_k18_ways_between_two_points.Holds := by
  exact LP.T.holds (k := 24) ⟨rfl, by decide, by decide⟩ (fun ns _ => LP.law1 ns)
