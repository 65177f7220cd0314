import PyProof.Rows.All
import Wide.All
import OpenK.AllK
import Wide.FinOn
import HandS.ForExc
import HandS.Comp
import HandS.Wide
import HandS.Gcd
import HandS.Conv
import HandS.Style
import HandS.Deep
import HandS.TupAny
import HandS.Text
import HandS.IsInst
import KE.SortData
import HandS.Ends
import HandS.Defaults
import KE.KStateDown
import HandS.Head0
import HandS.Head1
import HandS.Head2
import HandS.Head3
import HandS.HeadEnd
import HandS.HeadHook1
import HandS.HeadHook2
import PySem.Challenge.RW_fontalike_k89_traces_and_leads
set_option Elab.async false
set_option linter.all false
set_option maxRecDepth 100000
set_option maxHeartbeats 0
section
/-! PvSem: data, owned values, the small language and what its terms mean. Core Lean alone. -/
set_option Elab.async false
set_option linter.all false
namespace Pv

abbrev Txt := List Nat

/-- data: what never changes -/
inductive D where
  | non
  | bl (b : Bool)
  | int (i : Int)
  | str (s : Txt)
  | tup (xs : List D)
  | lst (xs : List D)
  | dct (t : Bool) (ks vs : List D)
  | obj (c : Nat) (ns : List Nat) (vs : List D)
  deriving Inhabited

/-- what a slot holds: data, or an object that this slot alone owns -/
inductive SV where
  | val (d : D)
  | ol (xs : List SV)
  | od (t : Bool) (ks : List D) (vs : List SV)
  | oi (c : Nat) (ns : List Nat) (vs : List SV)
  deriving Inhabited

inductive Stp where
  | fld (f : Nat)
  | ix (k : Nat)
/-- a value under way: data, a place within an owned object of a slot, a new object -/
inductive Hd where
  | d (d : D)
  | at_ (i : Nat) (p : List Stp)
  | fr (o : SV)

abbrev St := List (Option SV)
abbrev Exc := Nat
inductive Out (α : Type) where
  | ok (a : α) (S : St)
  | exc (x : Exc) (S : St)
abbrev Res (α : Type) := Option (Out α)
inductive Fin where
  | ok (r : SV) (outs : List SV)
  | exc (x : Exc) (outs : List SV)
inductive Flow where
  | next | brk | cnt
  | ret (o : SV)

/-- a witness that keeps simp out of a continuation -/
structure Wit {α : Type} (a : α) : Type where
  mk ::
def rb {α β : Type} (r : Res α) (f : α → St → Res β) (_w : Wit f) : Res β :=
  match r with
  | none => none
  | some (.ok a S) => f a S
  | some (.exc x S) => some (.exc x S)
theorem rb_ok {α β : Type} (a : α) (S : St) (f : α → St → Res β) (w : Wit f) : rb (some (.ok a S)) f w = f a S := rfl
theorem rb_exc {α β : Type} (x : Exc) (S : St) (f : α → St → Res β) (w : Wit f) : rb (some (.exc x S)) f w = some (.exc x S) := rfl
theorem rb_none {α β : Type} (f : α → St → Res β) (w : Wit f) : rb none f w = none := rfl
/-- .. of an option -/
def ob {α β : Type} (r : Option α) (f : α → Option β) (_w : Wit f) : Option β :=
  match r with
  | none => none
  | some a => f a
theorem ob_some {α β : Type} (a : α) (f : α → Option β) (w : Wit f) : ob (some a) f w = f a := rfl
theorem ob_none {α β : Type} (f : α → Option β) (w : Wit f) : ob none f w = none := rfl
/-- an option's value, or nothing at all -/
def lf {α : Type} (o : Option α) (S : St) : Res α :=
  match o with
  | none => none
  | some a => some (.ok a S)
theorem lf_some {α : Type} (a : α) (S : St) : lf (some a) S = some (.ok a S) := rfl
theorem lf_none {α : Type} (S : St) : lf (none : Option α) S = none := rfl

/-! ### owned objects -/
mutual
def fz : SV → D
  | .val d => d
  | .ol xs => .lst (fzL xs)
  | .od t ks vs => .dct t ks (fzL vs)
  | .oi c ns vs => .obj c ns (fzL vs)
def fzL : List SV → List D
  | [] => []
  | x :: xs => fz x :: fzL xs
end
def vals : List SV → Option (List D)
  | [] => some []
  | .val d :: r => (match vals r with | some ds => some (d :: ds) | none => none)
  | _ :: _ => none
theorem vals_map (ds : List D) : vals (ds.map SV.val) = some ds := by
  induction ds with
  | nil => rfl
  | cons d ds ih => simp only [List.map_cons, vals, ih]
theorem fzL_map (ds : List D) : fzL (ds.map SV.val) = ds := by
  induction ds with
  | nil => rfl
  | cons d ds ih => simp only [List.map_cons, fzL, fz, ih]
theorem fzL_eq (xs : List SV) : fzL xs = xs.map fz := by
  induction xs with
  | nil => rfl
  | cons x xs ih => simp only [List.map_cons, fzL, ih]

def sGet : St → Nat → Option SV
  | [], _ => none
  | v :: _, 0 => v
  | _ :: r, n + 1 => sGet r n
def fGet {α : Type} : List Nat → List α → Nat → Option α
  | n :: ns, v :: vs, f => if n = f then some v else fGet ns vs f
  | _, _, _ => none
def fSet {α : Type} : List Nat → List α → Nat → α → List Nat × List α
  | n :: ns, v :: vs, f, x => if n = f then (n :: ns, x :: vs) else let r := fSet ns vs f x; (n :: r.1, v :: r.2)
  | _, _, f, x => ([f], [x])
def getP : SV → List Stp → Option SV
  | o, [] => some o
  | .oi _ ns vs, .fld f :: p => (match fGet ns vs f with | some o => getP o p | none => none)
  | .ol xs, .ix k :: p => (match xs[k]? with | some o => getP o p | none => none)
  | _, _ => none
def setP : SV → List Stp → SV → Option SV
  | _, [], x => some x
  | .oi c ns vs, .fld f :: p, x => (match fGet ns vs f with
    | some o => (match setP o p x with
      | some o' => let r := fSet ns vs f o'; some (.oi c r.1 r.2)
      | none => none)
    | none => none)
  | .ol xs, .ix k :: p, x => (match xs[k]? with
    | some o => (match setP o p x with
      | some o' => some (.ol (xs.set k o'))
      | none => none)
    | none => none)
  | _, _, _ => none

/-- what stands at a handle -/
def look (h : Hd) (S : St) : Option SV :=
  match h with
  | .d d => some (.val d)
  | .fr o => some o
  | .at_ i p => (match sGet S i with | some o => getP o p | none => none)
/-- an owned object at a path is changed -/
def put (i : Nat) (p : List Stp) (o' : SV) (S : St) : Option St :=
  match sGet S i with
  | some o => (match setP o p o' with | some q => some (S.set i (some q)) | none => none)
  | none => none
/-- the value leaves its place: it never changes again -/
def esc (h : Hd) (S : St) : Res D :=
  match h with
  | .d d => some (.ok d S)
  | .fr o => some (.ok (fz o) S)
  | .at_ i p => (match look (.at_ i p) S with
    | some o => (match put i p (.val (fz o)) S with | some S' => some (.ok (fz o) S') | none => none)
    | none => none)
/-- read: data, or a list whose items are data -/
def peekV (o : SV) : Option D :=
  match o with
  | .val d => some d
  | .ol xs => (match vals xs with | some ds => some (.lst ds) | none => none)
  | _ => none
def peek (h : Hd) (S : St) : Option D :=
  match look h S with
  | some o => peekV o
  | none => none
def seqOf : D → Option (List D)
  | .tup xs => some xs
  | .lst xs => some xs
  | _ => none
def tupOf : D → Option (List D)
  | .tup xs => some xs
  | _ => none
def lstOf : D → Option (List D)
  | .lst xs => some xs
  | _ => none
/-- a handle of data: a list is a new one -/
def newH : D → Hd
  | .lst xs => .fr (.ol (xs.map SV.val))
  | d => .d d

/-! ### operations on data -/
mutual
def eqv : D → D → Bool
  | .non, .non => true
  | .bl a, .bl b => a == b
  | .bl a, .int j => (if a then 1 else 0) == j
  | .int i, .bl b => i == (if b then 1 else 0)
  | .int i, .int j => i == j
  | .str x, .str y => x == y
  | .lst xs, .lst ys => eqvL xs ys
  | .tup xs, .tup ys => eqvL xs ys
  | _, _ => false
def eqvL : List D → List D → Bool
  | [], [] => true
  | x :: xs, y :: ys => eqv x y && eqvL xs ys
  | _, _ => false
end
mutual
/-- nested at most n deep, None, bools, ints, texts, tuples and lists alone -/
def fit : D → Nat → Bool
  | .non, _ => true
  | .bl _, _ => true
  | .int _, _ => true
  | .str s, _ => s.all (fun c => decide (c < 1114112))
  | .tup xs, n + 1 => fitL xs n
  | .lst xs, n + 1 => fitL xs n
  | _, _ => false
def fitL : List D → Nat → Bool
  | [], _ => true
  | x :: xs, n => fit x n && fitL xs n
end
mutual
def ltd : D → D → Bool
  | .bl a, .bl b => !a && b
  | .int i, .int j => decide (i < j)
  | .str x, .str y => decide (x < y)
  | .lst xs, .lst ys => ltdL xs ys
  | .tup xs, .tup ys => ltdL xs ys
  | _, _ => false
def ltdL : List D → List D → Bool
  | [], [] => false
  | [], _ :: _ => true
  | _ :: _, [] => false
  | x :: xs, y :: ys => if eqv x y then ltdL xs ys else ltd x y
end
mutual
/-- of one shape as far as both go -/
def alk : D → D → Bool
  | .non, .non => true
  | .bl _, .bl _ => true
  | .int _, .int _ => true
  | .str _, .str _ => true
  | .lst xs, .lst ys => alkL xs ys
  | .tup xs, .tup ys => alkL xs ys
  | _, _ => false
def alkL : List D → List D → Bool
  | x :: xs, y :: ys => alk x y && alkL xs ys
  | _, _ => true
end

inductive BOp where
  | add | sub | mul | fdiv | mod | pow
inductive COp where
  | eq | ne | lt | le | gt | ge | isn | isnt | mem | nmem

def bits (i : Int) : Nat := i.natAbs.log2
def mulOk (i j : Int) : Bool := decide (i.natAbs < 2 ^ 64) || decide (j.natAbs < 2 ^ 64) || decide (bits i + bits j < 1000000)
def divOk (j : Int) : Bool := decide (j ≠ 0) && decide (bits j < 9000)
def powOk (i j : Int) : Bool := decide (0 ≤ j) && decide (j ≤ 1000000) && decide (i.natAbs < 2 ^ 64)
def sizeOk (n : Nat) : Bool := decide (n ≤ 16777216)
def binD : BOp → D → D → Option D
  | .add, .int i, .int j => some (.int (i + j))
  | .add, .tup xs, .tup ys => if sizeOk (xs.length + ys.length) then some (.tup (xs ++ ys)) else none
  | .add, .lst xs, .lst ys => if sizeOk (xs.length + ys.length) then some (.lst (xs ++ ys)) else none
  | .add, .str x, .str y => if sizeOk (x.length + y.length) then some (.str (x ++ y)) else none
  | .sub, .int i, .int j => some (.int (i - j))
  | .mul, .int i, .int j => if mulOk i j then some (.int (i * j)) else none
  | .fdiv, .int i, .int j => if divOk j then some (.int (i.fdiv j)) else none
  | .mod, .int i, .int j => if j ≠ 0 then some (.int (i.fmod j)) else none
  | .pow, .int i, .int j => if powOk i j then some (.int (i ^ j.toNat)) else none
  | _, _, _ => none
def fits (x : D) : Bool := fit x 64
def cmpD : COp → D → D → Option Bool
  | .eq, x, y => if fits x && fits y then some (eqv x y) else none
  | .ne, x, y => if fits x && fits y then some (!eqv x y) else none
  | .lt, .int i, .int j => some (decide (i < j))
  | .le, .int i, .int j => some (decide (i ≤ j))
  | .gt, .int i, .int j => some (decide (j < i))
  | .ge, .int i, .int j => some (decide (j ≤ i))
  | .lt, .tup xs, .tup ys => if fits (.tup xs) && fits (.tup ys) && alkL xs ys then some (ltdL xs ys) else none
  | .mem, x, .lst ys => if fits x && fits (.lst ys) then some (ys.any fun z => eqv z x) else none
  | .nmem, x, .lst ys => if fits x && fits (.lst ys) then some (!ys.any fun z => eqv z x) else none
  | _, _, _ => none
/-- keys of dicts: ints and texts, or tuples of such -/
def kOk1 : D → Bool
  | .int _ => true
  | .str _ => true
  | _ => false
def kOk (t : Bool) (k : D) : Bool :=
  match t, k with
  | false, .int _ => true
  | false, .str _ => true
  | true, .tup xs => xs.all kOk1
  | _, _ => false
mutual
def same : D → D → Bool
  | .int i, .int j => decide (i = j)
  | .str x, .str y => decide (x = y)
  | .tup xs, .tup ys => sameL xs ys
  | _, _ => false
def sameL : List D → List D → Bool
  | [], [] => true
  | x :: xs, y :: ys => same x y && sameL xs ys
  | _, _ => false
end
def kGet {α : Type} : List D → List α → D → Option α
  | n :: ns, v :: vs, f => if same n f then some v else kGet ns vs f
  | _, _, _ => none
def kSet {α : Type} : List D → List α → D → α → List D × List α
  | n :: ns, v :: vs, f, x => if same n f then (n :: ns, x :: vs) else let r := kSet ns vs f x; (n :: r.1, v :: r.2)
  | _, _, f, x => ([f], [x])
/-- a dict's keys -/
def dKeys : SV → Option (Bool × List D)
  | .val (.dct t ks _) => some (t, ks)
  | .od t ks _ => some (t, ks)
  | _ => none
def memV (x : D) (o : SV) : Option Bool :=
  match dKeys o with
  | some (t, ks) => if kOk t x then some (ks.any fun k => same k x) else none
  | none => (match peekV o with | some y => cmpD .mem x y | none => none)
def isNonV : SV → Bool
  | .val .non => true
  | _ => false
def isNon (h : Hd) (S : St) : Option Bool :=
  match look h S with
  | some o => some (isNonV o)
  | none => none
def cmpH (o : COp) (a b : Hd) (S : St) : Option Bool :=
  match o with
  | .isn => (match b with | .d .non => isNon a S | _ => none)
  | .isnt => (match b with | .d .non => (match isNon a S with | some r => some (!r) | none => none) | _ => none)
  | .mem => (match peek a S, look b S with | some x, some y => memV x y | _, _ => none)
  | .nmem => (match peek a S, look b S with | some x, some y => (match memV x y with | some r => some (!r) | none => none) | _, _ => none)
  | o => (match peek a S, peek b S with | some x, some y => cmpD o x y | _, _ => none)
def binH (o : BOp) (a b : Hd) (S : St) : Option Hd :=
  match peek a S, peek b S with
  | some x, some y => (match binD o x y with | some z => some (newH z) | none => none)
  | _, _ => none
/-- an index of any sign, its place -/
def ixN (n : Nat) (i : Int) : Option Nat := if 0 ≤ i then (if i < n then some i.toNat else none) else if -(n : Int) ≤ i then some (i + n).toNat else none
def atI {α : Type} (xs : List α) (i : Int) : Option α := match ixN xs.length i with | some j => xs[j]? | none => none
def subH (o : SV) (x : D) : Option Hd :=
  match o, x with
  | .val (.tup xs), .int i => (match atI xs i with | some d => some (.d d) | none => none)
  | .val (.lst xs), .int i => (match atI xs i with | some d => some (.d d) | none => none)
  | .val (.str s), .int i => (match atI s i with | some c => if sizeOk s.length then some (.d (.str [c])) else none | none => none)
  | .val (.dct t ks vs), k => if kOk t k then (match kGet ks vs k with | some d => some (.d d) | none => none) else none
  | .od t ks vs, k => if kOk t k then (match kGet ks vs k with | some (.val d) => some (.d d) | _ => none) else none
  | .ol xs, .int i => (match ixN xs.length i with
    | some j => (match xs[j]? with
      | some (.val d) => some (.d d)
      | _ => none)
    | none => none)
  | _, _ => none
def ixH (a b : Hd) (S : St) : Option Hd :=
  match look a S, peek b S with
  | some o, some x => subH o x
  | _, _ => none
/-- the bounds of a slice -/
def sIx (n d : Nat) : Option Int → Nat
  | none => d
  | some v => if v < 0 then (v + (n : Int)).toNat else min v.toNat n
def cut {α : Type} (xs : List α) (lo hi : Option Int) : List α := (xs.drop (sIx xs.length 0 lo)).take (sIx xs.length xs.length hi - sIx xs.length 0 lo)
def slcD (lo hi : Option Int) : D → Option D
  | .tup xs => some (.tup (cut xs lo hi))
  | .lst xs => some (.lst (cut xs lo hi))
  | .str s => if sizeOk s.length then some (.str (cut s lo hi)) else none
  | _ => none
def revD : D → Option D
  | .lst xs => some (.lst xs.reverse)
  | _ => none
def attV (f : Nat) : SV → Option Hd
  | .val (.obj _ ns vs) => (match fGet ns vs f with | some d => some (.d d) | none => none)
  | .oi _ ns vs => (match fGet ns vs f with
    | some (.val d) => some (.d d)
    | _ => none)
  | _ => none
def attH (a : Hd) (f : Nat) (S : St) : Option Hd :=
  match look a S with
  | some o => attV f o
  | none => none
def clsV : SV → Option Nat
  | .val (.obj c _ _) => some c
  | .oi c _ _ => some c
  | _ => none

inductive Bi where
  | len | int | abs | min | max | sorted | list | tuple | gcd | sum | any | all
  deriving DecidableEq
inductive Ty where
  | int | bool | str | tuple | list | none | dict
  deriving DecidableEq
def isTy : Ty → D → Bool
  | .int, .int _ => true
  | .int, .bl _ => true
  | .bool, .bl _ => true
  | .str, .str _ => true
  | .tuple, .tup _ => true
  | .list, .lst _ => true
  | .dict, .dct _ _ _ => true
  | .none, .non => true
  | _, _ => false
/-- may sorted take them -/
def srtOk (xs : List D) : Bool :=
  xs.all (fun x => fits x && xs.all fun y => alk x y) && (xs.all (fun x => match x with | .tup (_ :: _) => true | _ => false) || xs.all (fun x => match x with | .tup _ => false | .non => false | _ => true))
def intsOf : List D → Option (List Int)
  | [] => some []
  | .int i :: r => (match intsOf r with | some is => some (i :: is) | none => none)
  | _ :: _ => none
def blsOf : List D → Option (List Bool)
  | [] => some []
  | .bl i :: r => (match blsOf r with | some is => some (i :: is) | none => none)
  | _ :: _ => none
def lenV : SV → Option Nat
  | .val (.tup xs) => some xs.length
  | .val (.lst xs) => some xs.length
  | .val (.str s) => if sizeOk s.length then some s.length else none
  | .val (.dct _ ks _) => some ks.length
  | .ol xs => some xs.length
  | .od _ ks _ => some ks.length
  | _ => none
def minI : List Int → Option Int
  | [] => none
  | i :: is => some (is.foldl (fun a b => if b < a then b else a) i)
def maxI : List Int → Option Int
  | [] => none
  | i :: is => some (is.foldl (fun a b => if b > a then b else a) i)
def biD : Bi → List D → Option D
  | .int, [.int i] => some (.int i)
  | .int, [.bl b] => some (.int (if b then 1 else 0))
  | .abs, [.int i] => some (.int (if i < 0 then -i else i))
  | .min, [.int i, .int j] => some (.int (if j < i then j else i))
  | .max, [.int i, .int j] => some (.int (if j > i then j else i))
  | .min, [.lst xs] => (match intsOf xs with | some is => (match minI is with | some i => some (.int i) | none => none) | none => none)
  | .max, [.lst xs] => (match intsOf xs with | some is => (match maxI is with | some i => some (.int i) | none => none) | none => none)
  | .sum, [.lst xs] => (match intsOf xs with | some is => some (.int is.sum) | none => none)
  | .any, [.lst xs] => (match blsOf xs with | some bs => some (.bl (bs.any id)) | none => none)
  | .all, [.lst xs] => (match blsOf xs with | some bs => some (.bl (bs.all id)) | none => none)
  | .gcd, [.int i, .int j] => some (.int (Int.gcd i j))
  | .sorted, [.lst xs] => if srtOk xs then some (.lst (xs.mergeSort fun a b => !ltd b a)) else none
  | .list, [.lst xs] => some (.lst xs)
  | .list, [.tup xs] => some (.lst xs)
  | .list, [.dct _ ks _] => some (.lst ks)
  | .tuple, [.lst xs] => some (.tup xs)
  | .tuple, [.tup xs] => some (.tup xs)
  | _, _ => none
def peeks : List Hd → St → Option (List D)
  | [], _ => some []
  | h :: hs, S => (match peek h S, peeks hs S with | some x, some xs => some (x :: xs) | _, _ => none)
/-- dicts are read as their keys -/
def keyH (h : Hd) (S : St) : Option D :=
  match look h S with
  | some o => (match dKeys o with | some (_, ks) => some (.lst ks) | none => none)
  | none => none
def biH (b : Bi) (hs : List Hd) (S : St) : Option Hd :=
  match b, hs with
  | .len, [h] => (match look h S with | some o => (match lenV o with | some n => some (.d (.int (n : Int))) | none => none) | none => none)
  | b, hs => (match peeks hs S with
    | some xs => (match biD b xs with | some z => some (newH z) | none => none)
    | none => (match b, hs with
      | .list, [h] => (match keyH h S with | some z => some (newH z) | none => none)
      | _, _ => none))

/-! ### the language -/
inductive Tg where
  | nm (i : Nat)
  | tp (is : List Nat)
  | tp2 (iss : List (List Nat))
mutual
inductive E where
  | var (i : Nat)
  | pth (i : Nat) (p : List Stp)
  | cst (d : D)
  | glb (x : Txt) (d : D)
  | bin (o : BOp) (a b : E)
  | neg (a : E)
  | cmp (o : COp) (a b : E)
  | chn (o p : COp) (a b c : E)
  | and (a b : E)
  | or (a b : E)
  | not (a : E)
  | iff (c : T) (a b : E)
  | tup (es : Es)
  | lst (es : Es)
  | ix (a b : E)
  | slc (a : E) (lo hi : Eo)
  | rev (a : E)
  | call (g : Nat) (es : Es)
  | mth (c g : Nat) (a : E) (es : Es)
  | new (c g : Nat) (es : Es)
  | att (a : E) (f : Nat)
  | bi (b : Bi) (es : Es)
  | isi (a : E) (ts : List Ty)
  | isx (i : Nat) (ys : List Exc)
  | dget (a k z : E)
  | dct0 (t : Bool)
  | pop (a : E)
  | popi (a b : E)
  | lc (e : E) (t : Tg) (it : It) (c : To) (own : List Nat)
  | dc (t' : Bool) (k v : E) (t : Tg) (it : It) (own : List Nat)
  | stk
/-- tests -/
inductive T where
  | e (e : E)
  | and (a b : T)
  | or (a b : T)
  | not (a : T)
inductive To where
  | no
  | yes (c : T)
inductive Es where
  | nil
  | cons (e : E) (es : Es)
inductive Eo where
  | no
  | yes (e : E)
inductive It where
  | e (e : E)
  | r1 (a : E)
  | r2 (a b : E)
end
mutual
inductive S where
  | asg (t : Tg) (e : E)
  | par (is : List Nat) (es : Es)
  | mov (i j : Nat)
  | aug (i : Nat) (o : BOp) (e : E)
  | sIx (a b e : E)
  | sAt (a : E) (f : Nat) (e : E)
  | augIx (a b : E) (o : BOp) (e : E)
  | augAt (a : E) (f : Nat) (o : BOp) (e : E)
  | exp (e : E)
  | app (a e : E)
  | ext (a e : E)
  | ins (a b e : E)
  | iff (c : T) (a b : Ss)
  | whl (c : T) (b : Ss)
  | for_ (t : Tg) (it : It) (b : Ss)
  | forO (t : Tg) (e : E) (b : Ss)
  | ret (e : E)
  | retM (i : Nat)
  | retN
  | brk
  | cnt
  | pass
  | rais (x : Exc)
  | stk
  | tr (b : Ss) (hs : Hs)
inductive Ss where
  | nil
  | cons (s : S) (ss : Ss)
/-- except clauses: the class, the slot of its name, what is returned -/
inductive Hs where
  | nil
  | cons (x : Exc) (i : Nat) (b : Ss) (hs : Hs)
end
/-- a place within an object may come out -/
def stl : E → Bool
  | .pth _ p => !p.isEmpty
  | .iff _ a b => stl a || stl b
  | .and _ b => stl b
  | .or _ b => stl b
  | _ => false
mutual
/-- nothing that stood is changed -/
def qt : E → Bool
  | .var _ => true
  | .pth _ _ => true
  | .cst _ => true
  | .glb _ _ => true
  | .bin _ a b => qt a && qt b
  | .neg a => qt a
  | .cmp _ a b => qt a && qt b
  | .and a b => qt a && qt b
  | .or a b => qt a && qt b
  | .not a => qt a
  | .tup es => qts es
  | .lst es => qts es
  | .ix a b => qt a && qt b
  | .att a _ => qt a
  | .bi _ es => qts es
  | .dct0 _ => true
  | _ => false
def qts : Es → Bool
  | .nil => true
  | .cons e es => qt e && qts es
end
structure F where
  np : Nat
  ns : Nat
  rf : List Bool
  body : Ss

/-- what a body runs in: the calls, which parameters of a def are handed as they are; the exception classes: the first is below the second -/
structure Cxt where
  call : Nat → List SV → Option Fin
  rf : Nat → List Bool
  sub : Exc → Exc → Bool

/-! ### calls -/
/-- the arguments as they are handed over -/
def handArgs : List Bool → List Hd → St → Res (List SV)
  | _, [], S => some (.ok [] S)
  | rf, h :: hs, S => if rf.headD false = true then rb (handArgs rf.tail hs S) (fun vs S1 => (match look h S1 with | some o => some (.ok (o :: vs) S1) | none => none)) ⟨⟩
    else rb (esc h S) (fun d S1 => rb (handArgs rf.tail hs S1) (fun vs S2 => some (.ok (.val d :: vs) S2)) ⟨⟩) ⟨⟩
/-- the slots whose objects are handed over -/
def handed : List Bool → List Hd → List Nat
  | _, [] => []
  | rf, h :: hs => if rf.headD false = true then (match h with | .at_ i _ => i :: handed rf.tail hs | _ => handed rf.tail hs) else handed rf.tail hs
def noTwice : List Nat → Bool
  | [] => true
  | i :: is => !is.contains i && noTwice is
def backArgs : List Bool → List Hd → List SV → St → Option St
  | _, [], _, S => some S
  | rf, h :: hs, outs, S => if rf.headD false = true then (match outs with
      | o :: os => (match h with | .at_ i p => ob (put i p o S) (fun S1 => backArgs rf.tail hs os S1) ⟨⟩ | _ => backArgs rf.tail hs os S)
      | [] => none)
    else backArgs rf.tail hs outs S
def retH : SV → Hd
  | .val d => .d d
  | o => .fr o
def callH (C : Cxt) (g : Nat) (hs : List Hd) (S : St) : Res Hd :=
  if noTwice (handed (C.rf g) hs) then
    rb (handArgs (C.rf g) hs S) (fun vs S1 => (match C.call g vs with
      | some (.ok r outs) => (match backArgs (C.rf g) hs outs S1 with | some S2 => some (.ok (retH r) S2) | none => none)
      | some (.exc x outs) => (match backArgs (C.rf g) hs outs S1 with | some S2 => some (.exc x S2) | none => none)
      | none => none)) ⟨⟩
  else none
/-- a new instance: its __init__ gets the empty one -/
def newH' (C : Cxt) (c g : Nat) (hs : List Hd) (S : St) : Res Hd :=
  if noTwice (handed (C.rf g) (.fr (.oi c [] []) :: hs)) then
    rb (handArgs (C.rf g) (.fr (.oi c [] []) :: hs) S) (fun vs S1 => (match C.call g vs with
      | some (.ok (.val .non) (self :: outs)) => (match backArgs (C.rf g) (.fr (.oi c [] []) :: hs) (self :: outs) S1 with | some S2 => some (.ok (.fr self) S2) | none => none)
      | some (.exc x outs) => (match backArgs (C.rf g) (.fr (.oi c [] []) :: hs) outs S1 with | some S2 => some (.exc x S2) | none => none)
      | _ => none)) ⟨⟩
  else none

/-! ### targets -/
def asgNs : List Nat → List D → St → Option St
  | [], [], S => some S
  | i :: is, d :: ds, S => asgNs is ds (S.set i (some (.val d)))
  | _, _, _ => none
def asgNss : List (List Nat) → List D → St → Option St
  | [], [], S => some S
  | is :: iss, .tup xs :: ds, S => ob (asgNs is xs S) (fun S1 => asgNss iss ds S1) ⟨⟩
  | _, _, _ => none
def asgD (t : Tg) (d : D) (S : St) : Option St :=
  match t with
  | .nm i => some (S.set i (some (.val d)))
  | .tp is => (match d with | .tup xs => asgNs is xs S | _ => none)
  | .tp2 iss => (match d with | .tup xs => asgNss iss xs S | _ => none)
def asgH (t : Tg) (h : Hd) (S : St) : Res Unit :=
  match t, h with
  | .nm i, .fr o => some (.ok () (S.set i (some o)))
  | t, h => rb (esc h S) (fun d S1 => lf' (asgD t d S1)) ⟨⟩
where
  lf' (o : Option St) : Res Unit := match o with | some S => some (.ok () S) | none => none

/-! ### loops -/
def forL (body : St → Res Flow) (asg : D → St → Option St) : List D → St → Res Flow
  | [], S => some (.ok .next S)
  | x :: xs, S => (match asg x S with
    | none => none
    | some S1 => (match body S1 with
      | none => none
      | some (.exc e S2) => some (.exc e S2)
      | some (.ok .next S2) => forL body asg xs S2
      | some (.ok .cnt S2) => forL body asg xs S2
      | some (.ok .brk S2) => some (.ok .next S2)
      | some (.ok (.ret o) S2) => some (.ok (.ret o) S2)))
/-- over an owned list that the body leaves as it is -/
def forO (body : St → Res Flow) (asg : D → St → Option St) (h : Hd) (ds : List D) : Nat → St → Res Flow
  | 0, S => if (peek h S).isSome then some (.ok .next S) else none
  | n + 1, S => (match peek h S with
    | some (.lst xs) => if xs.length = ds.length then (match xs[ds.length - (n + 1)]? with
      | none => none
      | some x => (match asg x S with
        | none => none
        | some S1 => (match body S1 with
          | none => none
          | some (.exc e S2) => some (.exc e S2)
          | some (.ok .next S2) => forO body asg h ds n S2
          | some (.ok .cnt S2) => forO body asg h ds n S2
          | some (.ok .brk S2) => some (.ok .next S2)
          | some (.ok (.ret o) S2) => some (.ok (.ret o) S2)))) else none
    | _ => none)
def whlD (f : St → Option (St ⊕ Out Flow)) (S : St) : Res Flow :=
  match f S with
  | none => none
  | some (.inl S') => whlD f S'
  | some (.inr r) => some r
partial_fixpoint
/-- one turn of a while -/
def whlT (c : St → Res Bool) (b : St → Res Flow) (S : St) : Option (St ⊕ Out Flow) :=
  match c S with
  | none => none
  | some (.exc x S1) => some (.inr (.exc x S1))
  | some (.ok false S1) => some (.inr (.ok .next S1))
  | some (.ok true S1) => (match b S1 with
    | none => none
    | some (.exc x S2) => some (.inr (.exc x S2))
    | some (.ok .next S2) => some (.inl S2)
    | some (.ok .cnt S2) => some (.inl S2)
    | some (.ok .brk S2) => some (.inr (.ok .next S2))
    | some (.ok (.ret o) S2) => some (.inr (.ok (.ret o) S2)))
/-- the slots at is are forgotten -/
def wipe (S : St) : List Nat → St
  | [] => S
  | i :: is => (wipe S is).set i none
/-- a list comprehension's turns; own: the block's own slots -/
def lcL (own : List Nat) (asg : D → St → Option St) (cond : St → Res Bool) (elt : St → Res D) : List D → St → Res (List D)
  | [], S => some (.ok [] S)
  | x :: xs, S => (match asg x S with
    | none => none
    | some S1 => rb (cond S1) (fun b S2 => if b = true then rb (elt S2) (fun d S3 => rb (lcL own asg cond elt xs (wipe S3 own)) (fun ds S4 => some (.ok (d :: ds) S4)) ⟨⟩) ⟨⟩ else lcL own asg cond elt xs (wipe S2 own)) ⟨⟩)
def dcL (own : List Nat) (asg : D → St → Option St) (elt : St → Res (D × D)) : List D → List D → List D → St → Res (List D × List D)
  | [], ks, vs, S => some (.ok (ks, vs) S)
  | x :: xs, ks, vs, S => (match asg x S with
    | none => none
    | some S1 => rb (elt S1) (fun kv S2 => let r := kSet ks vs kv.1 kv.2; dcL own asg elt xs r.1 r.2 (wipe S2 own)) ⟨⟩)
/-- no exception is let out -/
def nox {α : Type} (r : Res α) : Res α :=
  match r with
  | some (.ok a S) => some (.ok a S)
  | _ => none
theorem nox_ok {α : Type} (a : α) (S : St) : nox (some (.ok a S)) = some (.ok a S) := rfl
def rngL (lo hi : Int) : List D := (List.range (hi - lo).toNat).map fun (k : Nat) => D.int (lo + (k : Int))
def rngOk (i : Int) : Bool := decide (bits i < 62)

/-! ### what a term means -/
def truV : D → Option Bool
  | .non => some false
  | .bl b => some b
  | .int i => some (i != 0)
  | .tup xs => some (!xs.isEmpty)
  | .lst xs => some (!xs.isEmpty)
  | _ => none
def blOf : Hd → Option Bool
  | .d (.bl b) => some b
  | _ => none
def intOf : D → Option Int
  | .int i => some i
  | _ => none
def rfOwn : Hd → Bool
  | .at_ _ _ => true
  | _ => false
mutual
def ev (C : Cxt) : E → St → Res Hd
  | .var i, S => (match sGet S i with | some (.val d) => some (.ok (.d d) S) | some _ => some (.ok (.at_ i []) S) | none => none)
  | .pth i p, S => (match sGet S i with
    | some o => (match getP o p with | some (.val d) => some (.ok (.d d) S) | some _ => some (.ok (.at_ i p) S) | none => none)
    | none => none)
  | .cst d, S => some (.ok (.d d) S)
  | .glb _ d, S => some (.ok (.d d) S)
  | .bin o a b, S => rb (ev C a S) (fun x S1 => rb (ev C b S1) (fun y S2 => lf (binH o x y S2) S2) ⟨⟩) ⟨⟩
  | .neg a, S => rb (ev C a S) (fun x S1 => (match x with | .d (.int i) => some (.ok (.d (.int (-i))) S1) | _ => none)) ⟨⟩
  | .cmp o a b, S => rb (ev C a S) (fun x S1 => rb (ev C b S1) (fun y S2 => (match cmpH o x y S2 with | some r => some (.ok (.d (.bl r)) S2) | none => none)) ⟨⟩) ⟨⟩
  | .chn o p a b c, S => rb (ev C a S) (fun x S1 => rb (ev C b S1) (fun y S2 => (match cmpH o x y S2 with
      | some true => rb (ev C c S2) (fun z S3 => (match cmpH p y z S3 with | some r => some (.ok (.d (.bl r)) S3) | none => none)) ⟨⟩
      | some false => some (.ok (.d (.bl false)) S2)
      | none => none)) ⟨⟩) ⟨⟩
  | .and a b, S => rb (ev C a S) (fun x S1 => (match blOf x with | some true => ev C b S1 | some false => some (.ok (.d (.bl false)) S1) | none => none)) ⟨⟩
  | .or a b, S => rb (ev C a S) (fun x S1 => (match blOf x with | some true => some (.ok (.d (.bl true)) S1) | some false => ev C b S1 | none => none)) ⟨⟩
  | .not a, S => rb (ev C a S) (fun x S1 => (match blOf x with | some r => some (.ok (.d (.bl (!r))) S1) | none => none)) ⟨⟩
  | .iff c a b, S => rb (tst C c S) (fun r S1 => if r = true then ev C a S1 else ev C b S1) ⟨⟩
  | .tup es, S => rb (evD C es S) (fun ds S1 => if sizeOk ds.length then some (.ok (.d (.tup ds)) S1) else none) ⟨⟩
  | .lst es, S => rb (evD C es S) (fun ds S1 => if sizeOk ds.length then some (.ok (.fr (.ol (ds.map SV.val))) S1) else none) ⟨⟩
  | .ix a b, S => rb (ev C a S) (fun x S1 => rb (ev C b S1) (fun y S2 => lf (ixH x y S2) S2) ⟨⟩) ⟨⟩
  | .slc a lo hi, S => rb (ev C a S) (fun x S1 => rb (evO C lo S1) (fun l S2 => rb (evO C hi S2) (fun u S3 =>
      (match peek x S3 with | some d => (match slcD l u d with | some z => some (.ok (newH z) S3) | none => none) | none => none)) ⟨⟩) ⟨⟩) ⟨⟩
  | .rev a, S => rb (ev C a S) (fun x S1 => (match peek x S1 with | some d => (match revD d with | some z => some (.ok (newH z) S1) | none => none) | none => none)) ⟨⟩
  | .call g es, S => rb (evs C es S) (fun hs S1 => callH C g hs S1) ⟨⟩
  | .mth c g a es, S => rb (ev C a S) (fun x S1 => (match look x S1 with
      | some o => if clsV o = some c then rb (evs C es S1) (fun hs S2 => callH C g (x :: hs) S2) ⟨⟩ else none
      | none => none)) ⟨⟩
  | .new c g es, S => rb (evs C es S) (fun hs S1 => newH' C c g hs S1) ⟨⟩
  | .att a f, S => rb (ev C a S) (fun x S1 => lf (attH x f S1) S1) ⟨⟩
  | .bi b es, S => rb (evs C es S) (fun hs S1 => lf (biH b hs S1) S1) ⟨⟩
  | .isi a ts, S => rb (ev C a S) (fun x S1 => (match peek x S1 with | some d => some (.ok (.d (.bl (ts.any fun t => isTy t d))) S1) | none => none)) ⟨⟩
  | .isx i ys, S => (match sGet S i with | some (.val (.obj x _ _)) => some (.ok (.d (.bl (ys.any fun y => C.sub x y))) S) | _ => none)
  | .dget a k z, S => rb (ev C a S) (fun x S1 => rb (ev C k S1) (fun y S2 => rb (ev C z S2) (fun w S3 => (match look x S3, peek y S3, peek w S3 with
      | some (.val (.dct t ks vs)), some q, some dz => if kOk t q then some (.ok (.d ((kGet ks vs q).getD dz)) S3) else none
      | some (.od t ks vs), some q, some dz => if kOk t q then (match kGet ks vs q with
        | some (.val d) => some (.ok (.d d) S3)
        | none => some (.ok (.d dz) S3)
        | _ => none) else none
      | _, _, _ => none)) ⟨⟩) ⟨⟩) ⟨⟩
  | .dct0 t, S => some (.ok (.fr (.od t [] [])) S)
  | .pop a, S => rb (ev C a S) (fun x S1 => (match x with
      | .at_ i p => (match look x S1 with
        | some (.ol xs) => (match xs.getLast? with
          | some (.val d) => (match put i p (.ol xs.dropLast) S1 with | some S2 => some (.ok (.d d) S2) | none => none)
          | _ => none)
        | _ => none)
      | _ => none)) ⟨⟩
  | .popi a b, S => rb (ev C a S) (fun x S1 => rb (ev C b S1) (fun y S2 => (match x, y with
      | .at_ i p, .d (.int k) => (match look x S2 with
        | some (.ol xs) => (match ixN xs.length k with
          | some j => (match xs[j]? with
            | some (.val d) => (match put i p (.ol (xs.eraseIdx j)) S2 with | some S3 => some (.ok (.d d) S3) | none => none)
            | _ => none)
          | none => none)
        | _ => none)
      | _, _ => none)) ⟨⟩) ⟨⟩
  | .lc e t it c own, S => rb (evI C it S) (fun xs S1 => rb (nox (lcL own (asgD t) (fun S2 => tstO C c S2) (fun S2 => rb (ev C e S2) (fun h S3 => esc h S3) ⟨⟩) xs (wipe S1 own))) (fun ds S2 => if sizeOk xs.length then some (.ok (.fr (.ol (ds.map SV.val))) S2) else none) ⟨⟩) ⟨⟩
  | .dc t' k v t it own, S => rb (evI C it S) (fun xs S1 => rb (nox (dcL own (asgD t) (fun S2 => rb (ev C k S2) (fun h S3 => rb (esc h S3) (fun dk S4 => rb (ev C v S4) (fun h' S5 => rb (esc h' S5) (fun dv S6 => if kOk t' dk then some (.ok (dk, dv) S6) else none) ⟨⟩) ⟨⟩) ⟨⟩) ⟨⟩) xs [] [] (wipe S1 own))) (fun kv S2 => if sizeOk xs.length then some (.ok (.fr (.od t' kv.1 (kv.2.map SV.val))) S2) else none) ⟨⟩) ⟨⟩
  | .stk, _ => none
/-- a test -/
def tst (C : Cxt) : T → St → Res Bool
  | .e e, S => rb (ev C e S) (fun x S1 => (match peek x S1 with | some d => lf (truV d) S1 | none => none)) ⟨⟩
  | .and a b, S => rb (tst C a S) (fun r S1 => if r = true then tst C b S1 else some (.ok false S1)) ⟨⟩
  | .or a b, S => rb (tst C a S) (fun r S1 => if r = true then some (.ok true S1) else tst C b S1) ⟨⟩
  | .not a, S => rb (tst C a S) (fun r S1 => some (.ok (!r) S1)) ⟨⟩
def tstO (C : Cxt) : To → St → Res Bool
  | .no, S => some (.ok true S)
  | .yes e, S => tst C e S
/-- values under way -/
def evs (C : Cxt) : Es → St → Res (List Hd)
  | .nil, S => some (.ok [] S)
  | .cons e es, S => rb (ev C e S) (fun h S1 => rb (evs C es S1) (fun hs S2 => some (.ok (h :: hs) S2)) ⟨⟩) ⟨⟩
/-- data -/
def evD (C : Cxt) : Es → St → Res (List D)
  | .nil, S => some (.ok [] S)
  | .cons e es, S => rb (ev C e S) (fun h S1 => rb (esc h S1) (fun d S2 => rb (evD C es S2) (fun ds S3 => some (.ok (d :: ds) S3)) ⟨⟩) ⟨⟩) ⟨⟩
def evO (C : Cxt) : Eo → St → Res (Option Int)
  | .no, S => some (.ok none S)
  | .yes e, S => rb (ev C e S) (fun h S1 => (match h with | .d (.int i) => some (.ok (some i) S1) | _ => none)) ⟨⟩
/-- what is walked, as data -/
def evI (C : Cxt) : It → St → Res (List D)
  | .e e, S => rb (ev C e S) (fun h S1 => rb (esc h S1) (fun d S2 => lf (seqOf d) S2) ⟨⟩) ⟨⟩
  | .r1 a, S => rb (ev C a S) (fun h S1 => (match h with | .d (.int i) => if rngOk i then some (.ok (rngL 0 i) S1) else none | _ => none)) ⟨⟩
  | .r2 a b, S => rb (ev C a S) (fun h S1 => rb (ev C b S1) (fun k S2 => (match h, k with | .d (.int i), .d (.int j) => if rngOk i && rngOk j then some (.ok (rngL i j) S2) else none | _, _ => none)) ⟨⟩) ⟨⟩
end

/-! ### statements -/
def toSV (h : Hd) (S : St) : Res SV :=
  match h with
  | .d d => some (.ok (.val d) S)
  | .fr o => some (.ok o S)
  | .at_ i p => rb (esc (.at_ i p) S) (fun d S1 => some (.ok (.val d) S1)) ⟨⟩
def toSVs : List Hd → St → Res (List SV)
  | [], S => some (.ok [] S)
  | h :: hs, S => rb (toSV h S) (fun o S1 => rb (toSVs hs S1) (fun os S2 => some (.ok (o :: os) S2)) ⟨⟩) ⟨⟩
def setSVs : List Nat → List SV → St → Option St
  | [], [], S => some S
  | i :: is, o :: os, S => setSVs is os (S.set i (some o))
  | _, _, _ => none
def okS (o : Option St) : Res Flow :=
  match o with
  | some S => some (.ok .next S)
  | none => none
theorem okS_some (S : St) : okS (some S) = some (.ok .next S) := rfl
theorem okS_none : okS none = none := rfl
def augD (o : BOp) (x y : D) : Option D :=
  match x, y with
  | .int i, .int j => binD o (.int i) (.int j)
  | _, _ => none
/-- o[k] = d -/
def setV (o : SV) (k : D) (d : D) : Option SV :=
  match o, k with
  | .ol xs, .int i => (match ixN xs.length i with | some j => some (.ol (xs.set j (.val d))) | none => none)
  | .od t ks vs, k => if kOk t k && sizeOk (ks.length + 1) then (let r := kSet ks vs k (.val d); some (.od t r.1 r.2)) else none
  | _, _ => none
def setH (x : Hd) (k d : D) (S : St) : Option St :=
  match x with
  | .at_ i p => (match look x S with
    | some o => (match setV o k d with | some o' => put i p o' S | none => none)
    | none => none)
  | _ => none
/-- o.f = v -/
def setF (x : Hd) (f : Nat) (v : SV) (S : St) : Option St :=
  match x with
  | .at_ i p => (match look x S with
    | some (.oi c ns vs) => if ns.length < 900 then (let r := fSet ns vs f v; put i p (.oi c r.1 r.2) S) else none
    | _ => none)
  | _ => none
def appH (x : Hd) (ds : List D) (S : St) : Option St :=
  match x with
  | .at_ i p => (match look x S with
    | some (.ol xs) => if sizeOk (xs.length + ds.length) then put i p (.ol (xs ++ ds.map SV.val)) S else none
    | _ => none)
  | _ => none
/-- an owned list stands there -/
def isOl (x : Hd) (S : St) : Bool :=
  match look x S with
  | some (.ol _) => true
  | _ => false
/-- the place where insert puts an item -/
def insAt (n : Nat) (i : Int) : Nat := if i < 0 then (i + (n : Int)).toNat else min i.toNat n
def insH (x : Hd) (k d : D) (S : St) : Option St :=
  match x, k with
  | .at_ i p, .int n => (match look x S with
    | some (.ol xs) => if sizeOk (xs.length + 1) then (let j := insAt xs.length n; put i p (.ol (xs.take j ++ [.val d] ++ xs.drop j)) S) else none
    | _ => none)
  | _, _ => none
mutual
def ex (C : Cxt) : S → St → Res Flow
  | .asg t e, S => rb (ev C e S) (fun h S1 => rb (asgH t h S1) (fun _ S2 => some (.ok .next S2)) ⟨⟩) ⟨⟩
  | .par is es, S => rb (evs C es S) (fun hs S1 => rb (toSVs hs S1) (fun os S2 => okS (setSVs is os S2)) ⟨⟩) ⟨⟩
  | .mov i j, S => (match sGet S j with
    | some (.val d) => some (.ok .next (S.set i (some (.val d))))
    | some o => some (.ok .next ((S.set j none).set i (some o)))
    | none => none)
  | .aug i o e, S => (match sGet S i with
    | some (.val x) => rb (ev C e S) (fun h S1 => (match h with
      | .d y => (match augD o x y with | some z => some (.ok .next (S1.set i (some (.val z)))) | none => none)
      | _ => none)) ⟨⟩
    | _ => none)
  | .sIx a b e, S => rb (ev C e S) (fun h S1 => rb (esc h S1) (fun d S2 => rb (ev C a S2) (fun x S3 => rb (ev C b S3) (fun y S4 => rb (esc y S4) (fun k S5 => okS (setH x k d S5)) ⟨⟩) ⟨⟩) ⟨⟩) ⟨⟩) ⟨⟩
  | .sAt a f e, S => rb (ev C e S) (fun h S1 => rb (toSV h S1) (fun o S2 => rb (ev C a S2) (fun x S3 => okS (setF x f o S3)) ⟨⟩) ⟨⟩) ⟨⟩
  | .augIx a b o e, S => rb (ev C a S) (fun x S1 => rb (ev C b S1) (fun y S2 => (match y with
      | .d k => (match ixH x y S2 with
        | some (.d u) => rb (ev C e S2) (fun h S3 => (match h with
          | .d w => (match augD o u w with | some z => okS (setH x k z S3) | none => none)
          | _ => none)) ⟨⟩
        | _ => none)
      | _ => none)) ⟨⟩) ⟨⟩
  | .augAt a f o e, S => rb (ev C a S) (fun x S1 => (match attH x f S1 with
      | some (.d u) => rb (ev C e S1) (fun h S2 => (match h with
        | .d w => (match augD o u w with | some z => okS (setF x f (.val z) S2) | none => none)
        | _ => none)) ⟨⟩
      | _ => none)) ⟨⟩
  | .exp e, S => rb (ev C e S) (fun _ S1 => some (.ok .next S1)) ⟨⟩
  | .app a e, S => rb (ev C a S) (fun x S1 => if isOl x S1 = true then rb (ev C e S1) (fun h S2 => rb (esc h S2) (fun d S3 => okS (appH x [d] S3)) ⟨⟩) ⟨⟩ else none) ⟨⟩
  | .ext a e, S => rb (ev C a S) (fun x S1 => rb (ev C e S1) (fun h S2 => (match peek h S2 with
      | some d => (match seqOf d with | some ds => okS (appH x ds S2) | none => none)
      | none => none)) ⟨⟩) ⟨⟩
  | .ins a b e, S => rb (ev C a S) (fun x S1 => rb (ev C b S1) (fun y S2 => rb (ev C e S2) (fun h S3 => rb (esc h S3) (fun d S4 => (match y with | .d k => okS (insH x k d S4) | _ => none)) ⟨⟩) ⟨⟩) ⟨⟩) ⟨⟩
  | .iff c a b, S => rb (tst C c S) (fun r S1 => if r = true then exs C a S1 else exs C b S1) ⟨⟩
  | .whl c b, S => whlD (whlT (fun S1 => tst C c S1) (fun S1 => exs C b S1)) S
  | .for_ t it b, S => rb (evI C it S) (fun xs S1 => forL (fun S2 => exs C b S2) (asgD t) xs S1) ⟨⟩
  | .forO t e b, S => rb (ev C e S) (fun h S1 => (match peek h S1 with
      | some (.lst xs) => forO (fun S2 => exs C b S2) (asgD t) h xs xs.length S1
      | _ => none)) ⟨⟩
  | .ret e, S => rb (ev C e S) (fun h S1 => rb (toSV h S1) (fun o S2 => some (.ok (.ret o) S2)) ⟨⟩) ⟨⟩
  | .retM i, S => (match sGet S i with | some o => some (.ok (.ret o) (S.set i none)) | none => none)
  | .retN, S => some (.ok (.ret (.val .non)) S)
  | .brk, S => some (.ok .brk S)
  | .cnt, S => some (.ok .cnt S)
  | .pass, S => some (.ok .next S)
  | .rais x, S => some (.exc x S)
  | .stk, _ => none
  | .tr b hs, S => (match exs C b S with
    | some (.exc x S1) => exh C hs x S1
    | r => r)
def exs (C : Cxt) : Ss → St → Res Flow
  | .nil, S => some (.ok .next S)
  | .cons s ss, S => rb (ex C s S) (fun f S1 => (match f with | .next => exs C ss S1 | f => some (.ok f S1))) ⟨⟩
def exh (C : Cxt) : Hs → Exc → St → Res Flow
  | .nil, x, S => some (.exc x S)
  | .cons y i b hs, x, S => if C.sub x y = true then rb (exs C b (S.set i (some (.val (.obj x [] []))))) (fun f S1 => some (.ok f (S1.set i none))) ⟨⟩ else exh C hs x S
end
/-- the objects that were handed over, as they are in the end -/
def outsOf : List Bool → St → Option (List SV)
  | [], _ => some []
  | true :: rf, some o :: S => (match outsOf rf S with | some os => some (o :: os) | none => none)
  | false :: rf, _ :: S => outsOf rf S
  | _, _ => none
def fin (rf : List Bool) (r : Res Flow) : Option Fin :=
  match r with
  | some (.ok .next S) => (match outsOf rf S with | some os => some (.ok (.val .non) os) | none => none)
  | some (.ok (.ret o) S) => (match outsOf rf S with | some os => some (.ok o os) | none => none)
  | some (.exc x S) => (match outsOf rf S with | some os => some (.exc x os) | none => none)
  | _ => none
theorem fin_next (rf : List Bool) (S : St) : fin rf (some (.ok .next S)) = (match outsOf rf S with | some os => some (.ok (.val .non) os) | none => none) := rfl
theorem fin_ret (rf : List Bool) (o : SV) (S : St) : fin rf (some (.ok (.ret o) S)) = (match outsOf rf S with | some os => some (.ok o os) | none => none) := rfl
theorem fin_exc (rf : List Bool) (x : Exc) (S : St) : fin rf (some (.exc x S)) = (match outsOf rf S with | some os => some (.exc x os) | none => none) := rfl
structure Prog where
  fs : List F
  sub : Exc → Exc → Bool
def Prog.rfs (P : Prog) (g : Nat) : List Bool := match P.fs[g]? with | some f => f.rf | none => []
def runF (C : Cxt) (f : F) (vs : List SV) : Option Fin :=
  if vs.length = f.np then fin f.rf (exs C f.body (vs.map some ++ List.replicate (f.ns - f.np) none)) else none
/-- a call, at most n deep -/
def callN (P : Prog) : Nat → Nat → List SV → Option Fin
  | 0, _, _ => none
  | n + 1, g, vs => (match P.fs[g]? with
    | some f => runF ⟨callN P n, P.rfs, P.sub⟩ f vs
    | none => none)

end Pv
end

section
set_option Elab.async false
set_option linter.all false
set_option maxRecDepth 100000
/-! PvM: the meaning, sealed: the kernel sees constants that it can't unfold. Printed by gen_m.py. -/
namespace Pv
noncomputable def sl {α : Type} (a : α) : {b : α // b = a} := Classical.choice ⟨⟨a, rfl⟩⟩
structure Sem where
  ev : Cxt → E → St → Res Hd
  tst : Cxt → T → St → Res Bool
  tstO : Cxt → To → St → Res Bool
  evs : Cxt → Es → St → Res (List Hd)
  evD : Cxt → Es → St → Res (List D)
  evO : Cxt → Eo → St → Res (Option Int)
  evI : Cxt → It → St → Res (List D)
  ex : Cxt → S → St → Res Flow
  exs : Cxt → Ss → St → Res Flow
  exh : Cxt → Hs → Exc → St → Res Flow
  for_ : Cxt → Tg → Ss → List D → St → Res Flow
  forO : Cxt → Tg → Ss → Hd → List D → Nat → St → Res Flow
  whl : Cxt → T → Ss → St → Res Flow
  lc : Cxt → List Nat → Tg → To → E → List D → St → Res (List D)
  dc : Cxt → List Nat → Tg → Bool → E → E → List D → List D → List D → St → Res (List D × List D)
  run : Cxt → F → List SV → Option Fin
  cx : Prog → Nat → Cxt
  call : Prog → Nat → Nat → List SV → Option Fin
def sem0 : Sem where
  ev := ev
  tst := tst
  tstO := tstO
  evs := evs
  evD := evD
  evO := evO
  evI := evI
  ex := ex
  exs := exs
  exh := exh
  for_ := fun C t b xs s => forL (fun S2 => exs C b S2) (asgD t) xs s
  forO := fun C t b h xs n s => forO (fun S2 => exs C b S2) (asgD t) h xs n s
  whl := fun C c b s => whlD (whlT (fun S1 => tst C c S1) (fun S1 => exs C b S1)) s
  lc := fun C own t c e xs s => lcL own (asgD t) (fun S2 => tstO C c S2) (fun S2 => rb (ev C e S2) (fun h S3 => esc h S3) ⟨⟩) xs s
  dc := fun C own t t' k v xs ks vs s => dcL own (asgD t) (fun S2 => rb (ev C k S2) (fun h S3 => rb (esc h S3) (fun dk S4 => rb (ev C v S4) (fun h' S5 => rb (esc h' S5) (fun dv S6 => if kOk t' dk then some (.ok (dk, dv) S6) else none) ⟨⟩) ⟨⟩) ⟨⟩) ⟨⟩) xs ks vs s
  run := runF
  cx := fun P n => ⟨callN P n, P.rfs, P.sub⟩
  call := callN
noncomputable def M : Sem := (sl sem0).1
theorem M_def : M = sem0 := (sl sem0).2

def varH (o : Option SV) (i : Nat) (S : St) : Res Hd := (match o with | some (.val d) => some (.ok (.d d) S) | some _ => some (.ok (.at_ i []) S) | none => none)
theorem varH_val (d : D) (i : Nat) (S : St) : varH (some (.val d)) i S = some (.ok (.d d) S) := rfl
theorem varH_ol (xs : List SV) (i : Nat) (S : St) : varH (some (.ol xs)) i S = some (.ok (.at_ i []) S) := rfl
theorem varH_od (t : Bool) (ks : List D) (vs : List SV) (i : Nat) (S : St) : varH (some (.od t ks vs)) i S = some (.ok (.at_ i []) S) := rfl
theorem varH_oi (c : Nat) (ns : List Nat) (vs : List SV) (i : Nat) (S : St) : varH (some (.oi c ns vs)) i S = some (.ok (.at_ i []) S) := rfl
def rngK (h : Hd) (S1 : St) : Res (List D) := (match h with | .d (.int i) => if rngOk i then some (.ok (rngL 0 i) S1) else none | _ => none)
def rngK2 (h k : Hd) (S2 : St) : Res (List D) := (match h, k with | .d (.int i), .d (.int j) => if rngOk i && rngOk j then some (.ok (rngL i j) S2) else none | _, _ => none)
noncomputable def forOK (C : Cxt) (t : Tg) (b : Ss) (h : Hd) (S1 : St) : Res Flow := (match peek h S1 with
      | some (.lst xs) => M.forO C t b h xs xs.length S1
      | _ => none)
noncomputable def trK (C : Cxt) (hs : Hs) (r : Res Flow) : Res Flow := (match r with
    | some (.exc x S1) => M.exh C hs x S1
    | r => r)
noncomputable def seqG (C : Cxt) (ss : Ss) (f : Flow) (S1 : St) : Res Flow :=
  match f with
  | .next => M.exs C ss S1
  | f => some (.ok f S1)

theorem M_ev_var (C : Cxt) (i : _) (s0 : _) : M.ev C (.var i) s0 = varH (sGet s0 i) i s0 := by rw [M_def]; rfl
theorem M_ev_pth (C : Cxt) (i : _) (p : _) (s0 : _) : M.ev C (.pth i p) s0 = (match sGet s0 i with
    | some o => (match getP o p with | some (.val d) => some (.ok (.d d) s0) | some _ => some (.ok (.at_ i p) s0) | none => none)
    | none => none) := by rw [M_def]; rfl
theorem M_ev_cst (C : Cxt) (d : _) (s0 : _) : M.ev C (.cst d) s0 = some (.ok (.d d) s0) := by rw [M_def]; rfl
theorem M_ev_glb (C : Cxt) (x : _) (d : _) (s0 : _) : M.ev C (.glb x d) s0 = some (.ok (.d d) s0) := by rw [M_def]; rfl
theorem M_ev_bin (C : Cxt) (o : _) (a : _) (b : _) (s0 : _) : M.ev C (.bin o a b) s0 = rb (M.ev C a s0) (fun x S1 => rb (M.ev C b S1) (fun y S2 => lf (binH o x y S2) S2) ⟨⟩) ⟨⟩ := by rw [M_def]; rfl
theorem M_ev_neg (C : Cxt) (a : _) (s0 : _) : M.ev C (.neg a) s0 = rb (M.ev C a s0) (fun x S1 => (match x with | .d (.int i) => some (.ok (.d (.int (-i))) S1) | _ => none)) ⟨⟩ := by rw [M_def]; rfl
theorem M_ev_cmp (C : Cxt) (o : _) (a : _) (b : _) (s0 : _) : M.ev C (.cmp o a b) s0 = rb (M.ev C a s0) (fun x S1 => rb (M.ev C b S1) (fun y S2 => (match cmpH o x y S2 with | some r => some (.ok (.d (.bl r)) S2) | none => none)) ⟨⟩) ⟨⟩ := by rw [M_def]; rfl
theorem M_ev_chn (C : Cxt) (o : _) (p : _) (a : _) (b : _) (c : _) (s0 : _) : M.ev C (.chn o p a b c) s0 = rb (M.ev C a s0) (fun x S1 => rb (M.ev C b S1) (fun y S2 => (match cmpH o x y S2 with
      | some true => rb (M.ev C c S2) (fun z S3 => (match cmpH p y z S3 with | some r => some (.ok (.d (.bl r)) S3) | none => none)) ⟨⟩
      | some false => some (.ok (.d (.bl false)) S2)
      | none => none)) ⟨⟩) ⟨⟩ := by rw [M_def]; rfl
theorem M_ev_and (C : Cxt) (a : _) (b : _) (s0 : _) : M.ev C (.and a b) s0 = rb (M.ev C a s0) (fun x S1 => (match blOf x with | some true => M.ev C b S1 | some false => some (.ok (.d (.bl false)) S1) | none => none)) ⟨⟩ := by rw [M_def]; rfl
theorem M_ev_or (C : Cxt) (a : _) (b : _) (s0 : _) : M.ev C (.or a b) s0 = rb (M.ev C a s0) (fun x S1 => (match blOf x with | some true => some (.ok (.d (.bl true)) S1) | some false => M.ev C b S1 | none => none)) ⟨⟩ := by rw [M_def]; rfl
theorem M_ev_not (C : Cxt) (a : _) (s0 : _) : M.ev C (.not a) s0 = rb (M.ev C a s0) (fun x S1 => (match blOf x with | some r => some (.ok (.d (.bl (!r))) S1) | none => none)) ⟨⟩ := by rw [M_def]; rfl
theorem M_ev_iff (C : Cxt) (c : _) (a : _) (b : _) (s0 : _) : M.ev C (.iff c a b) s0 = rb (M.tst C c s0) (fun r S1 => if r = true then M.ev C a S1 else M.ev C b S1) ⟨⟩ := by rw [M_def]; rfl
theorem M_ev_tup (C : Cxt) (es : _) (s0 : _) : M.ev C (.tup es) s0 = rb (M.evD C es s0) (fun ds S1 => if sizeOk ds.length then some (.ok (.d (.tup ds)) S1) else none) ⟨⟩ := by rw [M_def]; rfl
theorem M_ev_lst (C : Cxt) (es : _) (s0 : _) : M.ev C (.lst es) s0 = rb (M.evD C es s0) (fun ds S1 => if sizeOk ds.length then some (.ok (.fr (.ol (ds.map SV.val))) S1) else none) ⟨⟩ := by rw [M_def]; rfl
theorem M_ev_ix (C : Cxt) (a : _) (b : _) (s0 : _) : M.ev C (.ix a b) s0 = rb (M.ev C a s0) (fun x S1 => rb (M.ev C b S1) (fun y S2 => lf (ixH x y S2) S2) ⟨⟩) ⟨⟩ := by rw [M_def]; rfl
theorem M_ev_slc (C : Cxt) (a : _) (lo : _) (hi : _) (s0 : _) : M.ev C (.slc a lo hi) s0 = rb (M.ev C a s0) (fun x S1 => rb (M.evO C lo S1) (fun l S2 => rb (M.evO C hi S2) (fun u S3 =>
      (match peek x S3 with | some d => (match slcD l u d with | some z => some (.ok (newH z) S3) | none => none) | none => none)) ⟨⟩) ⟨⟩) ⟨⟩ := by rw [M_def]; rfl
theorem M_ev_rev (C : Cxt) (a : _) (s0 : _) : M.ev C (.rev a) s0 = rb (M.ev C a s0) (fun x S1 => (match peek x S1 with | some d => (match revD d with | some z => some (.ok (newH z) S1) | none => none) | none => none)) ⟨⟩ := by rw [M_def]; rfl
theorem M_ev_call (C : Cxt) (g : _) (es : _) (s0 : _) : M.ev C (.call g es) s0 = rb (M.evs C es s0) (callH C g) ⟨⟩ := by rw [M_def]; rfl
theorem M_ev_mth (C : Cxt) (c : _) (g : _) (a : _) (es : _) (s0 : _) : M.ev C (.mth c g a es) s0 = rb (M.ev C a s0) (fun x S1 => (match look x S1 with
      | some o => if clsV o = some c then rb (M.evs C es S1) (fun hs S2 => callH C g (x :: hs) S2) ⟨⟩ else none
      | none => none)) ⟨⟩ := by rw [M_def]; rfl
theorem M_ev_new (C : Cxt) (c : _) (g : _) (es : _) (s0 : _) : M.ev C (.new c g es) s0 = rb (M.evs C es s0) (fun hs S1 => newH' C c g hs S1) ⟨⟩ := by rw [M_def]; rfl
theorem M_ev_att (C : Cxt) (a : _) (f : _) (s0 : _) : M.ev C (.att a f) s0 = rb (M.ev C a s0) (fun x S1 => lf (attH x f S1) S1) ⟨⟩ := by rw [M_def]; rfl
theorem M_ev_bi (C : Cxt) (b : _) (es : _) (s0 : _) : M.ev C (.bi b es) s0 = rb (M.evs C es s0) (fun hs S1 => lf (biH b hs S1) S1) ⟨⟩ := by rw [M_def]; rfl
theorem M_ev_isi (C : Cxt) (a : _) (ts : _) (s0 : _) : M.ev C (.isi a ts) s0 = rb (M.ev C a s0) (fun x S1 => (match peek x S1 with | some d => some (.ok (.d (.bl (ts.any fun t => isTy t d))) S1) | none => none)) ⟨⟩ := by rw [M_def]; rfl
theorem M_ev_isx (C : Cxt) (i : _) (ys : _) (s0 : _) : M.ev C (.isx i ys) s0 = (match sGet s0 i with | some (.val (.obj x _ _)) => some (.ok (.d (.bl (ys.any fun y => C.sub x y))) s0) | _ => none) := by rw [M_def]; rfl
theorem M_ev_dget (C : Cxt) (a : _) (k : _) (z : _) (s0 : _) : M.ev C (.dget a k z) s0 = rb (M.ev C a s0) (fun x S1 => rb (M.ev C k S1) (fun y S2 => rb (M.ev C z S2) (fun w S3 => (match look x S3, peek y S3, peek w S3 with
      | some (.val (.dct t ks vs)), some q, some dz => if kOk t q then some (.ok (.d ((kGet ks vs q).getD dz)) S3) else none
      | some (.od t ks vs), some q, some dz => if kOk t q then (match kGet ks vs q with
        | some (.val d) => some (.ok (.d d) S3)
        | none => some (.ok (.d dz) S3)
        | _ => none) else none
      | _, _, _ => none)) ⟨⟩) ⟨⟩) ⟨⟩ := by rw [M_def]; rfl
theorem M_ev_dct0 (C : Cxt) (t : _) (s0 : _) : M.ev C (.dct0 t) s0 = some (.ok (.fr (.od t [] [])) s0) := by rw [M_def]; rfl
theorem M_ev_pop (C : Cxt) (a : _) (s0 : _) : M.ev C (.pop a) s0 = rb (M.ev C a s0) (fun x S1 => (match x with
      | .at_ i p => (match look x S1 with
        | some (.ol xs) => (match xs.getLast? with
          | some (.val d) => (match put i p (.ol xs.dropLast) S1 with | some S2 => some (.ok (.d d) S2) | none => none)
          | _ => none)
        | _ => none)
      | _ => none)) ⟨⟩ := by rw [M_def]; rfl
theorem M_ev_popi (C : Cxt) (a : _) (b : _) (s0 : _) : M.ev C (.popi a b) s0 = rb (M.ev C a s0) (fun x S1 => rb (M.ev C b S1) (fun y S2 => (match x, y with
      | .at_ i p, .d (.int k) => (match look x S2 with
        | some (.ol xs) => (match ixN xs.length k with
          | some j => (match xs[j]? with
            | some (.val d) => (match put i p (.ol (xs.eraseIdx j)) S2 with | some S3 => some (.ok (.d d) S3) | none => none)
            | _ => none)
          | none => none)
        | _ => none)
      | _, _ => none)) ⟨⟩) ⟨⟩ := by rw [M_def]; rfl
theorem M_ev_lc (C : Cxt) (e : _) (t : _) (it : _) (c : _) (own : _) (s0 : _) : M.ev C (.lc e t it c own) s0 = rb (M.evI C it s0) (fun xs S1 => rb (nox (M.lc C own t c e xs (wipe S1 own))) (fun ds S2 => if sizeOk xs.length then some (.ok (.fr (.ol (ds.map SV.val))) S2) else none) ⟨⟩) ⟨⟩ := by rw [M_def]; rfl
theorem M_ev_dc (C : Cxt) (t' : _) (k : _) (v : _) (t : _) (it : _) (own : _) (s0 : _) : M.ev C (.dc t' k v t it own) s0 = rb (M.evI C it s0) (fun xs S1 => rb (nox (M.dc C own t t' k v xs [] [] (wipe S1 own))) (fun kv S2 => if sizeOk xs.length then some (.ok (.fr (.od t' kv.1 (kv.2.map SV.val))) S2) else none) ⟨⟩) ⟨⟩ := by rw [M_def]; rfl
theorem M_ev_stk (C : Cxt) (s0 : _) : M.ev C .stk s0 = none := by rw [M_def]; rfl
theorem M_tst_e (C : Cxt) (e : _) (s0 : _) : M.tst C (.e e) s0 = rb (M.ev C e s0) (fun x S1 => (match peek x S1 with | some d => lf (truV d) S1 | none => none)) ⟨⟩ := by rw [M_def]; rfl
theorem M_tst_and (C : Cxt) (a : _) (b : _) (s0 : _) : M.tst C (.and a b) s0 = rb (M.tst C a s0) (fun r S1 => if r = true then M.tst C b S1 else some (.ok false S1)) ⟨⟩ := by rw [M_def]; rfl
theorem M_tst_or (C : Cxt) (a : _) (b : _) (s0 : _) : M.tst C (.or a b) s0 = rb (M.tst C a s0) (fun r S1 => if r = true then some (.ok true S1) else M.tst C b S1) ⟨⟩ := by rw [M_def]; rfl
theorem M_tst_not (C : Cxt) (a : _) (s0 : _) : M.tst C (.not a) s0 = rb (M.tst C a s0) (fun r S1 => some (.ok (!r) S1)) ⟨⟩ := by rw [M_def]; rfl
theorem M_tstO_no (C : Cxt) (s0 : _) : M.tstO C .no s0 = some (.ok true s0) := by rw [M_def]; rfl
theorem M_tstO_yes (C : Cxt) (e : _) (s0 : _) : M.tstO C (.yes e) s0 = M.tst C e s0 := by rw [M_def]; rfl
theorem M_evs_nil (C : Cxt) (s0 : _) : M.evs C .nil s0 = some (.ok [] s0) := by rw [M_def]; rfl
theorem M_evs_cons (C : Cxt) (e : _) (es : _) (s0 : _) : M.evs C (.cons e es) s0 = rb (M.ev C e s0) (fun h S1 => rb (M.evs C es S1) (fun hs S2 => some (.ok (h :: hs) S2)) ⟨⟩) ⟨⟩ := by rw [M_def]; rfl
theorem M_evD_nil (C : Cxt) (s0 : _) : M.evD C .nil s0 = some (.ok [] s0) := by rw [M_def]; rfl
theorem M_evD_cons (C : Cxt) (e : _) (es : _) (s0 : _) : M.evD C (.cons e es) s0 = rb (M.ev C e s0) (fun h S1 => rb (esc h S1) (fun d S2 => rb (M.evD C es S2) (fun ds S3 => some (.ok (d :: ds) S3)) ⟨⟩) ⟨⟩) ⟨⟩ := by rw [M_def]; rfl
theorem M_evO_no (C : Cxt) (s0 : _) : M.evO C .no s0 = some (.ok none s0) := by rw [M_def]; rfl
theorem M_evO_yes (C : Cxt) (e : _) (s0 : _) : M.evO C (.yes e) s0 = rb (M.ev C e s0) (fun h S1 => (match h with | .d (.int i) => some (.ok (some i) S1) | _ => none)) ⟨⟩ := by rw [M_def]; rfl
theorem M_evI_e (C : Cxt) (e : _) (s0 : _) : M.evI C (.e e) s0 = rb (M.ev C e s0) (fun h S1 => rb (esc h S1) (fun d S2 => lf (seqOf d) S2) ⟨⟩) ⟨⟩ := by rw [M_def]; rfl
theorem M_evI_r1 (C : Cxt) (a : _) (s0 : _) : M.evI C (.r1 a) s0 = rb (M.ev C a s0) rngK ⟨⟩ := by rw [M_def]; rfl
theorem M_evI_r2 (C : Cxt) (a : _) (b : _) (s0 : _) : M.evI C (.r2 a b) s0 = rb (M.ev C a s0) (fun h S1 => rb (M.ev C b S1) (rngK2 h) ⟨⟩) ⟨⟩ := by rw [M_def]; rfl
theorem M_ex_asg (C : Cxt) (t : _) (e : _) (s0 : _) : M.ex C (.asg t e) s0 = rb (M.ev C e s0) (fun h S1 => rb (asgH t h S1) (fun _ S2 => some (.ok .next S2)) ⟨⟩) ⟨⟩ := by rw [M_def]; rfl
theorem M_ex_par (C : Cxt) (is : _) (es : _) (s0 : _) : M.ex C (.par is es) s0 = rb (M.evs C es s0) (fun hs S1 => rb (toSVs hs S1) (fun os S2 => okS (setSVs is os S2)) ⟨⟩) ⟨⟩ := by rw [M_def]; rfl
theorem M_ex_mov (C : Cxt) (i : _) (j : _) (s0 : _) : M.ex C (.mov i j) s0 = (match sGet s0 j with
    | some (.val d) => some (.ok .next (s0.set i (some (.val d))))
    | some o => some (.ok .next ((s0.set j none).set i (some o)))
    | none => none) := by rw [M_def]; rfl
theorem M_ex_aug (C : Cxt) (i : _) (o : _) (e : _) (s0 : _) : M.ex C (.aug i o e) s0 = (match sGet s0 i with
    | some (.val x) => rb (M.ev C e s0) (fun h S1 => (match h with
      | .d y => (match augD o x y with | some z => some (.ok .next (S1.set i (some (.val z)))) | none => none)
      | _ => none)) ⟨⟩
    | _ => none) := by rw [M_def]; rfl
theorem M_ex_sIx (C : Cxt) (a : _) (b : _) (e : _) (s0 : _) : M.ex C (.sIx a b e) s0 = rb (M.ev C e s0) (fun h S1 => rb (esc h S1) (fun d S2 => rb (M.ev C a S2) (fun x S3 => rb (M.ev C b S3) (fun y S4 => rb (esc y S4) (fun k S5 => okS (setH x k d S5)) ⟨⟩) ⟨⟩) ⟨⟩) ⟨⟩) ⟨⟩ := by rw [M_def]; rfl
theorem M_ex_sAt (C : Cxt) (a : _) (f : _) (e : _) (s0 : _) : M.ex C (.sAt a f e) s0 = rb (M.ev C e s0) (fun h S1 => rb (toSV h S1) (fun o S2 => rb (M.ev C a S2) (fun x S3 => okS (setF x f o S3)) ⟨⟩) ⟨⟩) ⟨⟩ := by rw [M_def]; rfl
theorem M_ex_augIx (C : Cxt) (a : _) (b : _) (o : _) (e : _) (s0 : _) : M.ex C (.augIx a b o e) s0 = rb (M.ev C a s0) (fun x S1 => rb (M.ev C b S1) (fun y S2 => (match y with
      | .d k => (match ixH x y S2 with
        | some (.d u) => rb (M.ev C e S2) (fun h S3 => (match h with
          | .d w => (match augD o u w with | some z => okS (setH x k z S3) | none => none)
          | _ => none)) ⟨⟩
        | _ => none)
      | _ => none)) ⟨⟩) ⟨⟩ := by rw [M_def]; rfl
theorem M_ex_augAt (C : Cxt) (a : _) (f : _) (o : _) (e : _) (s0 : _) : M.ex C (.augAt a f o e) s0 = rb (M.ev C a s0) (fun x S1 => (match attH x f S1 with
      | some (.d u) => rb (M.ev C e S1) (fun h S2 => (match h with
        | .d w => (match augD o u w with | some z => okS (setF x f (.val z) S2) | none => none)
        | _ => none)) ⟨⟩
      | _ => none)) ⟨⟩ := by rw [M_def]; rfl
theorem M_ex_exp (C : Cxt) (e : _) (s0 : _) : M.ex C (.exp e) s0 = rb (M.ev C e s0) (fun _ S1 => some (.ok .next S1)) ⟨⟩ := by rw [M_def]; rfl
theorem M_ex_app (C : Cxt) (a : _) (e : _) (s0 : _) : M.ex C (.app a e) s0 = rb (M.ev C a s0) (fun x S1 => if isOl x S1 = true then rb (M.ev C e S1) (fun h S2 => rb (esc h S2) (fun d S3 => okS (appH x [d] S3)) ⟨⟩) ⟨⟩ else none) ⟨⟩ := by rw [M_def]; rfl
theorem M_ex_ext (C : Cxt) (a : _) (e : _) (s0 : _) : M.ex C (.ext a e) s0 = rb (M.ev C a s0) (fun x S1 => rb (M.ev C e S1) (fun h S2 => (match peek h S2 with
      | some d => (match seqOf d with | some ds => okS (appH x ds S2) | none => none)
      | none => none)) ⟨⟩) ⟨⟩ := by rw [M_def]; rfl
theorem M_ex_ins (C : Cxt) (a : _) (b : _) (e : _) (s0 : _) : M.ex C (.ins a b e) s0 = rb (M.ev C a s0) (fun x S1 => rb (M.ev C b S1) (fun y S2 => rb (M.ev C e S2) (fun h S3 => rb (esc h S3) (fun d S4 => (match y with | .d k => okS (insH x k d S4) | _ => none)) ⟨⟩) ⟨⟩) ⟨⟩) ⟨⟩ := by rw [M_def]; rfl
theorem M_ex_iff (C : Cxt) (c : _) (a : _) (b : _) (s0 : _) : M.ex C (.iff c a b) s0 = rb (M.tst C c s0) (fun r S1 => if r = true then M.exs C a S1 else M.exs C b S1) ⟨⟩ := by rw [M_def]; rfl
theorem M_ex_whl (C : Cxt) (c : _) (b : _) (s0 : _) : M.ex C (.whl c b) s0 = M.whl C c b s0 := by rw [M_def]; rfl
theorem M_ex_for_ (C : Cxt) (t : _) (it : _) (b : _) (s0 : _) : M.ex C (.for_ t it b) s0 = rb (M.evI C it s0) (M.for_ C t b) ⟨⟩ := by rw [M_def]; rfl
theorem M_ex_forO (C : Cxt) (t : _) (e : _) (b : _) (s0 : _) : M.ex C (.forO t e b) s0 = rb (M.ev C e s0) (forOK C t b) ⟨⟩ := by unfold forOK; rw [M_def]; rfl
theorem M_ex_ret (C : Cxt) (e : _) (s0 : _) : M.ex C (.ret e) s0 = rb (M.ev C e s0) (fun h S1 => rb (toSV h S1) (fun o S2 => some (.ok (.ret o) S2)) ⟨⟩) ⟨⟩ := by rw [M_def]; rfl
theorem M_ex_retM (C : Cxt) (i : _) (s0 : _) : M.ex C (.retM i) s0 = (match sGet s0 i with | some o => some (.ok (.ret o) (s0.set i none)) | none => none) := by rw [M_def]; rfl
theorem M_ex_retN (C : Cxt) (s0 : _) : M.ex C .retN s0 = some (.ok (.ret (.val .non)) s0) := by rw [M_def]; rfl
theorem M_ex_brk (C : Cxt) (s0 : _) : M.ex C .brk s0 = some (.ok .brk s0) := by rw [M_def]; rfl
theorem M_ex_cnt (C : Cxt) (s0 : _) : M.ex C .cnt s0 = some (.ok .cnt s0) := by rw [M_def]; rfl
theorem M_ex_pass (C : Cxt) (s0 : _) : M.ex C .pass s0 = some (.ok .next s0) := by rw [M_def]; rfl
theorem M_ex_rais (C : Cxt) (x : _) (s0 : _) : M.ex C (.rais x) s0 = some (.exc x s0) := by rw [M_def]; rfl
theorem M_ex_stk (C : Cxt) (s0 : _) : M.ex C .stk s0 = none := by rw [M_def]; rfl
theorem M_ex_tr (C : Cxt) (b : _) (hs : _) (s0 : _) : M.ex C (.tr b hs) s0 = trK C hs (M.exs C b s0) := by unfold trK; rw [M_def]; rfl
theorem M_exs_nil (C : Cxt) (s0 : _) : M.exs C .nil s0 = some (.ok .next s0) := by rw [M_def]; rfl
theorem M_exs_cons (C : Cxt) (s : _) (ss : _) (s0 : _) : M.exs C (.cons s ss) s0 = rb (M.ex C s s0) (seqG C ss) ⟨⟩ := by unfold seqG; rw [M_def]; rfl
theorem M_exh_nil (C : Cxt) (x : _) (s0 : _) : M.exh C .nil x s0 = some (.exc x s0) := by rw [M_def]; rfl
theorem M_exh_cons (C : Cxt) (y : _) (i : _) (b : _) (hs : _) (x : _) (s0 : _) : M.exh C (.cons y i b hs) x s0 = if C.sub x y = true then rb (M.exs C b (s0.set i (some (.val (.obj x [] []))))) (fun f S1 => some (.ok f (S1.set i none))) ⟨⟩ else M.exh C hs x s0 := by rw [M_def]; rfl
/-! ### loops, calls -/
theorem seqG_next (C : Cxt) (ss : Ss) (S : St) : seqG C ss .next S = M.exs C ss S := rfl
theorem seqG_brk (C : Cxt) (ss : Ss) (S : St) : seqG C ss .brk S = some (.ok .brk S) := rfl
theorem seqG_cnt (C : Cxt) (ss : Ss) (S : St) : seqG C ss .cnt S = some (.ok .cnt S) := rfl
theorem seqG_ret (C : Cxt) (ss : Ss) (o : SV) (S : St) : seqG C ss (.ret o) S = some (.ok (.ret o) S) := rfl
noncomputable def forK (C : Cxt) (t : Tg) (b : Ss) (xs : List D) (r : Res Flow) : Res Flow :=
  match r with
  | none => none
  | some (.exc e S2) => some (.exc e S2)
  | some (.ok .next S2) => M.for_ C t b xs S2
  | some (.ok .cnt S2) => M.for_ C t b xs S2
  | some (.ok .brk S2) => some (.ok .next S2)
  | some (.ok (.ret o) S2) => some (.ok (.ret o) S2)
noncomputable def forA (C : Cxt) (t : Tg) (b : Ss) (xs : List D) (o : Option St) : Res Flow :=
  match o with
  | none => none
  | some S1 => forK C t b xs (M.exs C b S1)
theorem M_for_nil (C : Cxt) (t : Tg) (b : Ss) (S : St) : M.for_ C t b [] S = some (.ok .next S) := by rw [M_def]; rfl
theorem M_for_cons (C : Cxt) (t : Tg) (b : Ss) (x : D) (xs : List D) (S : St) : M.for_ C t b (x :: xs) S = forA C t b xs (asgD t x S) := by
  unfold forA forK
  rw [M_def]
  show forL _ _ (x :: xs) S = _
  unfold forL
  cases asgD t x S with
  | none => rfl
  | some S1 =>
    simp only [sem0]
    all_goals (cases exs C b S1 with
    | none => rfl
    | some r =>
      cases r with
      | exc e S2 => rfl
      | ok f S2 => cases f <;> rfl)
theorem forA_some (C : Cxt) (t : Tg) (b : Ss) (xs : List D) (S : St) : forA C t b xs (some S) = forK C t b xs (M.exs C b S) := rfl
theorem forK_next (C : Cxt) (t : Tg) (b : Ss) (xs : List D) (S : St) : forK C t b xs (some (.ok .next S)) = M.for_ C t b xs S := rfl
theorem forK_cnt (C : Cxt) (t : Tg) (b : Ss) (xs : List D) (S : St) : forK C t b xs (some (.ok .cnt S)) = M.for_ C t b xs S := rfl
theorem forK_brk (C : Cxt) (t : Tg) (b : Ss) (xs : List D) (S : St) : forK C t b xs (some (.ok .brk S)) = some (.ok .next S) := rfl
theorem forK_exc (C : Cxt) (t : Tg) (b : Ss) (xs : List D) (e : Exc) (S : St) : forK C t b xs (some (.exc e S)) = some (.exc e S) := rfl
theorem forK_ret (C : Cxt) (t : Tg) (b : Ss) (xs : List D) (o : SV) (S : St) : forK C t b xs (some (.ok (.ret o) S)) = some (.ok (.ret o) S) := rfl
noncomputable def whlK (C : Cxt) (c : T) (b : Ss) (r : Res Flow) : Res Flow :=
  match r with
  | none => none
  | some (.exc x S2) => some (.exc x S2)
  | some (.ok .next S2) => M.whl C c b S2
  | some (.ok .cnt S2) => M.whl C c b S2
  | some (.ok .brk S2) => some (.ok .next S2)
  | some (.ok (.ret o) S2) => some (.ok (.ret o) S2)
theorem whlK_next (C : Cxt) (c : T) (b : Ss) (S : St) : whlK C c b (some (.ok .next S)) = M.whl C c b S := rfl
theorem whlK_cnt (C : Cxt) (c : T) (b : Ss) (S : St) : whlK C c b (some (.ok .cnt S)) = M.whl C c b S := rfl
theorem whlK_brk (C : Cxt) (c : T) (b : Ss) (S : St) : whlK C c b (some (.ok .brk S)) = some (.ok .next S) := rfl
theorem whlK_exc (C : Cxt) (c : T) (b : Ss) (e : Exc) (S : St) : whlK C c b (some (.exc e S)) = some (.exc e S) := rfl
theorem whlK_ret (C : Cxt) (c : T) (b : Ss) (o : SV) (S : St) : whlK C c b (some (.ok (.ret o) S)) = some (.ok (.ret o) S) := rfl
noncomputable def whlB (C : Cxt) (c : T) (b : Ss) (r : Bool) (S1 : St) : Res Flow := if r = true then whlK C c b (M.exs C b S1) else some (.ok .next S1)
theorem whlB_t (C : Cxt) (c : T) (b : Ss) (S1 : St) : whlB C c b true S1 = whlK C c b (M.exs C b S1) := rfl
theorem whlB_f (C : Cxt) (c : T) (b : Ss) (S1 : St) : whlB C c b false S1 = some (.ok .next S1) := rfl
theorem M_whl (C : Cxt) (c : T) (b : Ss) (S : St) : M.whl C c b S = rb (M.tst C c S) (whlB C c b) ⟨⟩ := by
  unfold whlB whlK
  rw [M_def]
  show whlD _ S = _
  rw [whlD.eq_1]
  simp only [sem0]
  cases h : tst C c S with
  | none => simp only [whlT, h, rb_none]
  | some r =>
    cases r with
    | exc x S1 => simp only [whlT, h, rb_exc]
    | ok v S1 =>
      cases v with
      | false => simp only [whlT, h, rb_ok, Bool.false_eq_true, if_false]
      | true =>
        cases h2 : exs C b S1 with
        | none => simp only [whlT, h, h2, rb_ok, if_true]
        | some r =>
          cases r with
          | exc e S2 => simp only [whlT, h, h2, rb_ok, if_true]
          | ok f S2 => cases f <;> simp only [whlT, h, h2, rb_ok, if_true]
noncomputable def lcB (C : Cxt) (own : List Nat) (t : Tg) (c : To) (e : E) (xs : List D) (b : Bool) (S2 : St) : Res (List D) :=
  if b = true then rb (M.ev C e S2) (fun h S3 => rb (esc h S3) (fun d S4 => rb (M.lc C own t c e xs (wipe S4 own)) (fun ds S5 => some (.ok (d :: ds) S5)) ⟨⟩) ⟨⟩) ⟨⟩ else M.lc C own t c e xs (wipe S2 own)
noncomputable def lcA (C : Cxt) (own : List Nat) (t : Tg) (c : To) (e : E) (xs : List D) (o : Option St) : Res (List D) :=
  match o with
  | none => none
  | some S1 => rb (M.tstO C c S1) (lcB C own t c e xs) ⟨⟩
theorem lcA_some (C : Cxt) (own : List Nat) (t : Tg) (c : To) (e : E) (xs : List D) (S1 : St) : lcA C own t c e xs (some S1) = rb (M.tstO C c S1) (lcB C own t c e xs) ⟨⟩ := rfl
theorem lcB_t (C : Cxt) (own : List Nat) (t : Tg) (c : To) (e : E) (xs : List D) (S2 : St) : lcB C own t c e xs true S2 = rb (M.ev C e S2) (fun h S3 => rb (esc h S3) (fun d S4 => rb (M.lc C own t c e xs (wipe S4 own)) (fun ds S5 => some (.ok (d :: ds) S5)) ⟨⟩) ⟨⟩) ⟨⟩ := rfl
theorem lcB_f (C : Cxt) (own : List Nat) (t : Tg) (c : To) (e : E) (xs : List D) (S2 : St) : lcB C own t c e xs false S2 = M.lc C own t c e xs (wipe S2 own) := rfl
theorem M_lc_nil (C : Cxt) (own : List Nat) (t : Tg) (c : To) (e : E) (S : St) : M.lc C own t c e [] S = some (.ok [] S) := by rw [M_def]; rfl
theorem M_lc_cons (C : Cxt) (own : List Nat) (t : Tg) (c : To) (e : E) (x : D) (xs : List D) (S : St) : M.lc C own t c e (x :: xs) S = lcA C own t c e xs (asgD t x S) := by
  unfold lcA lcB
  rw [M_def]
  simp only [sem0]
  rw [lcL]
  cases asgD t x S with
  | none => rfl
  | some S1 =>
    simp only
    cases tstO C c S1 with
    | none => rfl
    | some r =>
      cases r with
      | exc e S2 => rfl
      | ok b S2 =>
        simp only [rb_ok]
        by_cases h : b = true
        · rw [if_pos h, if_pos h]
          cases ev C e S2 with
          | none => rfl
          | some r => cases r <;> rfl
        · rw [if_neg h, if_neg h]
theorem M_run (C : Cxt) (f : F) (vs : List SV) : M.run C f vs = if vs.length = f.np then fin f.rf (M.exs C f.body (vs.map some ++ List.replicate (f.ns - f.np) none)) else none := by rw [M_def]; rfl
theorem M_call (P : Prog) (n g : Nat) (vs : List SV) : M.call P (n+1) g vs = (match P.fs[g]? with | some f => M.run (M.cx P n) f vs | none => none) := by rw [M_def]; rfl
theorem M_cx_rf (P : Prog) (n g : Nat) : (M.cx P n).rf g = P.rfs g := by rw [M_def]; rfl
theorem M_cx_sub (P : Prog) (n x y : Nat) : (M.cx P n).sub x y = P.sub x y := by rw [M_def]; rfl
theorem M_cx_call (P : Prog) (n g : Nat) (vs : List SV) : (M.cx P n).call g vs = M.call P n g vs := by rw [M_def]; rfl
theorem M_callN (P : Prog) (n g : Nat) (vs : List SV) : callN P n g vs = M.call P n g vs := by rw [M_def]; rfl
theorem rngK_nat0 {n : Nat} (h : n ≤ 16777216) : rngOk (n : Int) = true := by
  unfold rngOk bits
  refine decide_eq_true ?_
  by_cases z : (n : Int).natAbs = 0
  · rw [z]; decide
  · exact (Nat.log2_lt z).mpr (by omega)
theorem rngK_nat {n : Nat} (h : n ≤ 16777216) (S : St) : rngK (.d (.int (n : Int))) S = some (.ok ((List.range n).map fun (k : Nat) => D.int (k : Int)) S) := by
  unfold rngK
  simp only
  rw [if_pos (rngK_nat0 h)]
  unfold rngL
  simp

end Pv
end

section
set_option Elab.async false
set_option linter.all false
set_option maxRecDepth 100000
/-! PvPure: small laws of the meaning, for walks over terms. Core Lean alone. -/
namespace Pv

theorem atI_c0 {α : Type} (x : α) (xs : List α) : atI (x :: xs) 0 = some x := by
  have : ((0 : Int) < ((xs.length + 1 : Nat) : Int)) := by omega
  simp [atI, ixN, this]
theorem atI_nat {α : Type} (xs : List α) (i : Nat) : atI xs (i : Int) = xs[i]? := by
  unfold atI ixN
  by_cases h : i < xs.length
  · have : ((i : Int) < (xs.length : Int)) := by omega
    simp [this]
  · have : ¬ ((i : Int) < (xs.length : Int)) := by omega
    simp only [Int.natCast_nonneg, if_true, this, if_false]
    rw [List.getElem?_eq_none (by omega)]
theorem atI_c1 {α : Type} (x y : α) (xs : List α) : atI (x :: y :: xs) 1 = some y := atI_nat _ 1
theorem atI_c2 {α : Type} (x y z : α) (xs : List α) : atI (x :: y :: z :: xs) 2 = some z := atI_nat _ 2
theorem atI_c3 {α : Type} (x y z w : α) (xs : List α) : atI (x :: y :: z :: w :: xs) 3 = some w := atI_nat _ 3
theorem atI_c4 {α : Type} (x y z w u : α) (xs : List α) : atI (x :: y :: z :: w :: u :: xs) 4 = some u := atI_nat _ 4
theorem atI_last {α : Type} (xs : List α) (h : xs ≠ []) : atI xs (-1) = some (xs.getLast h) := by
  have h1 : xs.length ≠ 0 := fun z => h (List.eq_nil_of_length_eq_zero z)
  have h2 : (-(xs.length : Int) ≤ -1) := by omega
  have h3 : ((-1 : Int) + xs.length).toNat = xs.length - 1 := by omega
  unfold atI ixN
  rw [if_neg (by decide), if_pos h2]
  simp only [h3]
  rw [List.getElem?_eq_getElem (by omega), List.getLast_eq_getElem]
theorem ix_31 : ixN 3 1 = some 1 := rfl
theorem ix_30 : ixN 3 0 = some 0 := rfl
theorem ix_32 : ixN 3 2 = some 2 := rfl
theorem ix_10 : ixN 1 0 = some 0 := rfl
theorem ix_1m : ixN 1 (-1) = some 0 := rfl
theorem ix_20 : ixN 2 0 = some 0 := rfl
theorem ix_21 : ixN 2 1 = some 1 := rfl
theorem ix_2m : ixN 2 (-1) = some 1 := rfl
theorem ix_3m : ixN 3 (-1) = some 2 := rfl
theorem ix_40 : ixN 4 0 = some 0 := rfl
theorem ix_41 : ixN 4 1 = some 1 := rfl
theorem ix_42 : ixN 4 2 = some 2 := rfl
theorem ix_43 : ixN 4 3 = some 3 := rfl
theorem ix_4m : ixN 4 (-1) = some 3 := rfl
theorem ix_50 : ixN 5 0 = some 0 := rfl
theorem ix_51 : ixN 5 1 = some 1 := rfl
theorem ix_52 : ixN 5 2 = some 2 := rfl
theorem ix_53 : ixN 5 3 = some 3 := rfl
theorem ix_54 : ixN 5 4 = some 4 := rfl
theorem ix_5m : ixN 5 (-1) = some 4 := rfl
theorem ix_60 : ixN 6 0 = some 0 := rfl
theorem ix_61 : ixN 6 1 = some 1 := rfl
theorem ix_62 : ixN 6 2 = some 2 := rfl
theorem ix_63 : ixN 6 3 = some 3 := rfl
theorem ix_64 : ixN 6 4 = some 4 := rfl
theorem ix_65 : ixN 6 5 = some 5 := rfl
theorem ix_6m : ixN 6 (-1) = some 5 := rfl
theorem ix_70 : ixN 7 0 = some 0 := rfl
theorem ix_71 : ixN 7 1 = some 1 := rfl
theorem ix_72 : ixN 7 2 = some 2 := rfl
theorem ix_73 : ixN 7 3 = some 3 := rfl
theorem ix_74 : ixN 7 4 = some 4 := rfl
theorem ix_75 : ixN 7 5 = some 5 := rfl
theorem ix_76 : ixN 7 6 = some 6 := rfl
theorem ix_7m : ixN 7 (-1) = some 6 := rfl
theorem ix_80 : ixN 8 0 = some 0 := rfl
theorem ix_81 : ixN 8 1 = some 1 := rfl
theorem ix_82 : ixN 8 2 = some 2 := rfl
theorem ix_83 : ixN 8 3 = some 3 := rfl
theorem ix_84 : ixN 8 4 = some 4 := rfl
theorem ix_85 : ixN 8 5 = some 5 := rfl
theorem ix_86 : ixN 8 6 = some 6 := rfl
theorem ix_87 : ixN 8 7 = some 7 := rfl
theorem ix_8m : ixN 8 (-1) = some 7 := rfl
theorem retH_val (d : D) : retH (.val d) = .d d := rfl
theorem retH_ol (xs : List SV) : retH (.ol xs) = .fr (.ol xs) := rfl
theorem retH_od (t : Bool) (ks : List D) (vs : List SV) : retH (.od t ks vs) = .fr (.od t ks vs) := rfl
theorem retH_oi (c : Nat) (ns : List Nat) (vs : List SV) : retH (.oi c ns vs) = .fr (.oi c ns vs) := rfl
theorem fdiv_pos {a b : Int} (h : 0 < b) : a.fdiv b = a / b := Int.fdiv_eq_ediv_of_nonneg a (by omega)
theorem fmod_pos {a b : Int} (h : 0 < b) : a.fmod b = a % b := Int.fmod_eq_emod_of_nonneg a (by omega)
theorem mul_l {i j : Int} (h : i.natAbs < 2 ^ 64) : mulOk i j = true := by simp [mulOk, h]
theorem mul_r {i j : Int} (h : j.natAbs < 2 ^ 64) : mulOk i j = true := by simp [mulOk, h]
theorem div_s {j : Int} (h : j ≠ 0) (h2 : j.natAbs < 2 ^ 64) : divOk j = true := by
  unfold divOk bits
  rw [Bool.and_eq_true]
  refine ⟨decide_eq_true h, decide_eq_true ?_⟩
  by_cases z : j.natAbs = 0
  · omega
  · have := (Nat.log2_lt z).mpr h2
    omega
theorem cut_all {α : Type} (xs : List α) : cut xs none none = xs := by simp [cut, sIx]
theorem cut_from {α : Type} (xs : List α) (k : Nat) : cut xs (some (k : Int)) none = xs.drop k := by
  unfold cut sIx
  have h : ¬ ((k : Int) < 0) := by omega
  simp only [h, if_false, Int.toNat_natCast]
  by_cases q : k ≤ xs.length
  · rw [Nat.min_eq_left q, List.take_of_length_le (by simp)]
  · rw [Nat.min_eq_right (by omega)]
    simp [List.drop_eq_nil_of_le (show xs.length ≤ k by omega)]
theorem cut_1 {α : Type} (xs : List α) : cut xs (some 1) none = xs.drop 1 := cut_from xs 1
theorem cut_init {α : Type} (xs : List α) : cut xs none (some (-1)) = xs.dropLast := by
  unfold cut sIx
  simp only [show ((-1 : Int) < 0) from by decide, if_true, List.drop_zero, Nat.sub_zero]
  rw [List.dropLast_eq_take]
  congr 1
  omega
theorem rng_nat (n : Nat) : rngL 0 (n : Int) = (List.range n).map fun (k : Nat) => D.int (k : Int) := by
  unfold rngL
  simp
theorem vals_append (a b : List D) : vals (a.map SV.val ++ b.map SV.val) = some (a ++ b) := by rw [← List.map_append, vals_map]
end Pv
end

section
set_option Elab.async false
set_option maxRecDepth 100000
namespace K89
open Pv
/-- 0: fraction; slots 0 n 1 d 2 common -/
def f_fraction : F := { np := 2, ns := 3, rf := [false, false], body := (.cons (.iff (.e (.cmp .eq (.var 1) (.cst (.int 0)))) (.cons .stk .nil) .nil) (.cons (.iff (.e (.cmp .lt (.var 1) (.cst (.int 0)))) (.cons (.asg (.nm 0) (.neg (.var 0))) (.cons (.asg (.nm 1) (.neg (.var 1))) .nil)) .nil) (.cons (.asg (.nm 2) (.bi .gcd (.cons (.var 0) (.cons (.var 1) .nil)))) (.cons (.ret (.tup (.cons (.bin .fdiv (.var 0) (.var 2)) (.cons (.bin .fdiv (.var 1) (.var 2)) .nil)))) .nil)))) }
/-- 1: plus; slots 0 a 1 b -/
def f_plus : F := { np := 2, ns := 2, rf := [false, false], body := (.cons (.ret (.call 0 (.cons (.bin .add (.bin .mul (.ix (.var 0) (.cst (.int 0))) (.ix (.var 1) (.cst (.int 1)))) (.bin .mul (.ix (.var 1) (.cst (.int 0))) (.ix (.var 0) (.cst (.int 1))))) (.cons (.bin .mul (.ix (.var 0) (.cst (.int 1))) (.ix (.var 1) (.cst (.int 1)))) .nil)))) .nil) }
/-- 2: minus; slots 0 a 1 b -/
def f_minus : F := { np := 2, ns := 2, rf := [false, false], body := (.cons (.ret (.call 0 (.cons (.bin .sub (.bin .mul (.ix (.var 0) (.cst (.int 0))) (.ix (.var 1) (.cst (.int 1)))) (.bin .mul (.ix (.var 1) (.cst (.int 0))) (.ix (.var 0) (.cst (.int 1))))) (.cons (.bin .mul (.ix (.var 0) (.cst (.int 1))) (.ix (.var 1) (.cst (.int 1)))) .nil)))) .nil) }
/-- 3: order; slots 0 a 1 b 2 left 3 right -/
def f_order : F := { np := 2, ns := 4, rf := [false, false], body := (.cons (.asg (.nm 2) (.bin .mul (.ix (.var 0) (.cst (.int 0))) (.ix (.var 1) (.cst (.int 1))))) (.cons (.asg (.nm 3) (.bin .mul (.ix (.var 1) (.cst (.int 0))) (.ix (.var 0) (.cst (.int 1))))) (.cons (.iff (.e (.cmp .lt (.var 2) (.var 3))) (.cons (.ret (.neg (.cst (.int 1)))) .nil) .nil) (.cons (.iff (.e (.cmp .gt (.var 2) (.var 3))) (.cons (.ret (.cst (.int 1))) .nil) .nil) (.cons (.ret (.cst (.int 0))) .nil))))) }
/-- 4: lesser; slots 0 a 1 b -/
def f_lesser : F := { np := 2, ns := 2, rf := [false, false], body := (.cons (.iff (.e (.cmp .gt (.call 3 (.cons (.var 0) (.cons (.var 1) .nil))) (.cst (.int 0)))) (.cons (.ret (.var 1)) .nil) .nil) (.cons (.ret (.var 0)) .nil)) }
/-- 5: whole; slots 0 n -/
def f_whole : F := { np := 1, ns := 1, rf := [false], body := (.cons (.ret (.tup (.cons (.var 0) (.cons (.cst (.int 1)) .nil)))) .nil) }
/-- 6: moved_right; slots 0 edges 1 distance 2 moved 3 a 4 b -/
def f_moved_right : F := { np := 2, ns := 5, rf := [false, false], body := (.cons (.asg (.nm 2) (.lst .nil)) (.cons (.for_ (.tp [3, 4]) (.e (.var 0)) (.cons (.app (.var 2) (.tup (.cons (.tup (.cons (.call 1 (.cons (.ix (.var 3) (.cst (.int 0))) (.cons (.var 1) .nil))) (.cons (.ix (.var 3) (.cst (.int 1))) .nil))) (.cons (.tup (.cons (.call 1 (.cons (.ix (.var 4) (.cst (.int 0))) (.cons (.var 1) .nil))) (.cons (.ix (.var 4) (.cst (.int 1))) .nil))) .nil)))) .nil)) (.cons (.ret (.bi .tuple (.cons (.var 2) .nil))) .nil))) }
/-- 7: least_of; slots 0 numbers 1 found 2 number -/
def f_least_of : F := { np := 1, ns := 3, rf := [false], body := (.cons (.asg (.nm 1) (.ix (.var 0) (.cst (.int 0)))) (.cons (.for_ (.nm 2) (.e (.var 0)) (.cons (.asg (.nm 1) (.call 4 (.cons (.var 1) (.cons (.var 2) .nil)))) .nil)) (.cons (.retM 1) .nil))) }
/-- 8: glyph_trace; slots 0 edges 1 width 2 least 3 a 4 _ 5 mark -/
def f_glyph_trace : F := { np := 2, ns := 6, rf := [false, false], body := (.cons (.iff (.e (.cmp .eq (.bi .len (.cons (.var 0) .nil)) (.cst (.int 0)))) (.cons (.ret (.tup (.cons (.tup .nil) (.cons (.call 5 (.cons (.var 1) .nil)) .nil)))) .nil) .nil) (.cons (.asg (.nm 2) (.call 7 (.cons (.lc (.ix (.var 3) (.cst (.int 0))) (.tp [3, 4]) (.e (.var 0)) .no [3, 4]) .nil))) (.cons (.asg (.nm 5) (.call 6 (.cons (.var 0) (.cons (.call 2 (.cons (.glb [78, 79, 84, 72, 73, 78, 71] (.tup [(.int 0), (.int 1)])) (.cons (.var 2) .nil))) .nil)))) (.cons (.ret (.tup (.cons (.tup (.cons (.tup (.cons (.var 2) (.cons (.var 5) .nil))) .nil)) (.cons (.call 2 (.cons (.call 5 (.cons (.var 1) .nil)) (.cons (.var 2) .nil))) .nil)))) .nil)))) }
/-- 9: join_traces; slots 0 first 1 second 2 marks 3 rest 4 more 5 end 6 advance 7 mark -/
def f_join_traces : F := { np := 2, ns := 8, rf := [false, false], body := (.cons (.asg (.tp [2, 3]) (.var 0)) (.cons (.asg (.tp [4, 5]) (.var 1)) (.cons (.iff (.e (.cmp .eq (.bi .len (.cons (.var 4) .nil)) (.cst (.int 0)))) (.cons (.ret (.tup (.cons (.var 2) (.cons (.call 1 (.cons (.var 3) (.cons (.var 5) .nil))) .nil)))) .nil) .nil) (.cons (.asg (.tp [6, 7]) (.ix (.var 4) (.cst (.int 0)))) (.cons (.ret (.tup (.cons (.bin .add (.bin .add (.var 2) (.tup (.cons (.tup (.cons (.call 1 (.cons (.var 3) (.cons (.var 6) .nil))) (.cons (.var 7) .nil))) .nil))) (.slc (.var 4) (.yes (.cst (.int 1))) .no)) (.cons (.var 5) .nil)))) .nil))))) }
/-- 10: moved_back; slots 0 trace 1 distance 2 marks 3 rest 4 advance 5 mark -/
def f_moved_back : F := { np := 2, ns := 6, rf := [false, false], body := (.cons (.asg (.tp [2, 3]) (.var 0)) (.cons (.iff (.e (.cmp .eq (.bi .len (.cons (.var 2) .nil)) (.cst (.int 0)))) (.cons (.ret (.tup (.cons (.var 2) (.cons (.call 2 (.cons (.var 3) (.cons (.var 1) .nil))) .nil)))) .nil) .nil) (.cons (.asg (.tp [4, 5]) (.ix (.var 2) (.cst (.int 0)))) (.cons (.ret (.tup (.cons (.bin .add (.tup (.cons (.tup (.cons (.call 2 (.cons (.var 4) (.cons (.var 1) .nil))) (.cons (.var 5) .nil))) .nil)) (.slc (.var 2) (.yes (.cst (.int 1))) .no)) (.cons (.var 3) .nil)))) .nil)))) }
/-- 11: common_count; slots 0 first 1 second 2 count -/
def f_common_count : F := { np := 2, ns := 3, rf := [false, false], body := (.cons (.asg (.nm 2) (.cst (.int 0))) (.cons (.whl (.and (.e (.cmp .lt (.var 2) (.bi .len (.cons (.ix (.var 0) (.cst (.int 0))) .nil)))) (.and (.e (.cmp .lt (.var 2) (.bi .len (.cons (.ix (.var 1) (.cst (.int 0))) .nil)))) (.e (.cmp .eq (.ix (.ix (.var 0) (.cst (.int 0))) (.var 2)) (.ix (.ix (.var 1) (.cst (.int 0))) (.var 2)))))) (.cons (.aug 2 .add (.cst (.int 1))) .nil)) (.cons (.retM 2) .nil))) }
/-- 12: lead; slots 0 first 1 second 2 count -/
def f_lead : F := { np := 2, ns := 3, rf := [false, false], body := (.cons (.asg (.nm 2) (.call 11 (.cons (.var 0) (.cons (.var 1) .nil)))) (.cons (.asg (.nm 0) (.tup (.cons (.slc (.ix (.var 0) (.cst (.int 0))) (.yes (.var 2)) .no) (.cons (.ix (.var 0) (.cst (.int 1))) .nil)))) (.cons (.asg (.nm 1) (.tup (.cons (.slc (.ix (.var 1) (.cst (.int 0))) (.yes (.var 2)) .no) (.cons (.ix (.var 1) (.cst (.int 1))) .nil)))) (.cons (.iff (.and (.e (.cmp .gt (.bi .len (.cons (.ix (.var 0) (.cst (.int 0))) .nil)) (.cst (.int 0)))) (.e (.cmp .gt (.bi .len (.cons (.ix (.var 1) (.cst (.int 0))) .nil)) (.cst (.int 0))))) (.cons (.ret (.cst .non)) .nil) .nil) (.cons (.iff (.e (.cmp .eq (.bi .len (.cons (.ix (.var 1) (.cst (.int 0))) .nil)) (.cst (.int 0)))) (.cons (.ret (.tup (.cons (.call 10 (.cons (.var 0) (.cons (.ix (.var 1) (.cst (.int 1))) .nil))) (.cons (.glb [69, 77, 80, 84, 89] (.tup [(.tup []), (.tup [(.int 0), (.int 1)])])) .nil)))) .nil) .nil) (.cons (.ret (.tup (.cons (.glb [69, 77, 80, 84, 89] (.tup [(.tup []), (.tup [(.int 0), (.int 1)])])) (.cons (.call 10 (.cons (.var 1) (.cons (.ix (.var 0) (.cst (.int 1))) .nil))) .nil)))) .nil)))))) }
/-- 13: _law_cell; slots 0 script 1 k -/
def f_law_cell : F := { np := 2, ns := 2, rf := [false, false], body := (.cons (.iff (.e (.cmp .lt (.var 1) (.bi .len (.cons (.var 0) .nil)))) (.cons (.ret (.ix (.var 0) (.var 1))) .nil) .nil) (.cons (.ret (.cst (.int 0))) .nil)) }
/-- 14: _law_stream; slots 0 cell -/
def f_law_stream : F := { np := 1, ns := 1, rf := [false], body := (.cons (.iff (.e (.cmp .ge (.var 0) (.bin .pow (.cst (.int 10)) (.cst (.int 18))))) (.cons (.ret (.lst (.cons (.var 0) (.cons (.cst (.int 0)) (.cons (.bin .mod (.bi .int (.cons (.var 0) .nil)) (.cst (.int 1000003))) .nil))))) .nil) .nil) (.cons (.ret (.lst (.cons (.cst (.int 0)) (.cons (.cst (.int 0)) (.cons (.bin .mod (.bi .int (.cons (.var 0) .nil)) (.cst (.int 1000000007))) .nil))))) .nil)) }
/-- 15: _law_next; slots 0 stream 1 size 2 drawn 3 mixed -/
def f_law_next : F := { np := 2, ns := 4, rf := [true, false], body := (.cons (.iff (.e (.cmp .gt (.ix (.var 0) (.cst (.int 0))) (.cst (.int 0)))) (.cons (.asg (.nm 2) (.bin .mod (.bi .int (.cons (.ix (.var 0) (.cst (.int 0))) .nil)) (.var 1))) (.cons (.sIx (.var 0) (.cst (.int 0)) (.bin .fdiv (.ix (.var 0) (.cst (.int 0))) (.var 1))) (.cons (.retM 2) .nil))) .nil) (.cons (.sIx (.var 0) (.cst (.int 1)) (.bin .add (.ix (.var 0) (.cst (.int 1))) (.cst (.int 1)))) (.cons (.asg (.nm 3) (.bin .mod (.bi .int (.cons (.bin .add (.bin .mul (.ix (.var 0) (.cst (.int 2))) (.cst (.int 48271))) (.bin .mul (.ix (.var 0) (.cst (.int 1))) (.cst (.int 69621)))) .nil)) (.cst (.int 2147483647)))) (.cons (.asg (.nm 3) (.bin .mod (.bi .int (.cons (.bin .add (.bin .mul (.var 3) (.var 3)) (.bin .mul (.ix (.var 0) (.cst (.int 1))) (.cst (.int 40692)))) .nil)) (.cst (.int 2147483399)))) (.cons (.asg (.nm 3) (.bin .mod (.bi .int (.cons (.bin .add (.bin .mul (.var 3) (.cst (.int 16807))) (.ix (.var 0) (.cst (.int 2)))) .nil)) (.cst (.int 2147483647)))) (.cons (.ret (.bin .mod (.bi .int (.cons (.var 3) .nil)) (.var 1))) .nil)))))) }
/-- 16: _law_same; slots 0 actual 1 due 2 k -/
def f_law_same : F := { np := 2, ns := 3, rf := [false, false], body := (.cons (.iff (.or (.e (.isi (.var 1) [.tuple])) (.e (.isi (.var 1) [.list]))) (.cons (.iff (.and (.e (.isi (.var 1) [.tuple])) (.not (.e (.isi (.var 0) [.tuple])))) (.cons (.ret (.cst (.bl false))) .nil) .nil) (.cons (.iff (.and (.e (.isi (.var 1) [.list])) (.not (.e (.isi (.var 0) [.list])))) (.cons (.ret (.cst (.bl false))) .nil) .nil) (.cons (.iff (.e (.cmp .ne (.bi .len (.cons (.var 0) .nil)) (.bi .len (.cons (.var 1) .nil)))) (.cons (.ret (.cst (.bl false))) .nil) .nil) (.cons (.for_ (.nm 2) (.r1 (.bi .len (.cons (.var 1) .nil))) (.cons (.iff (.not (.e (.call 16 (.cons (.ix (.var 0) (.var 2)) (.cons (.ix (.var 1) (.var 2)) .nil))))) (.cons (.ret (.cst (.bl false))) .nil) .nil) .nil)) (.cons (.ret (.cst (.bl true))) .nil))))) .nil) (.cons (.iff (.e (.cmp .isn (.var 1) (.cst .non))) (.cons (.ret (.cmp .isn (.var 0) (.cst .non))) .nil) .nil) (.cons (.iff (.e (.isi (.var 1) [.str])) (.cons (.ret (.and (.isi (.var 0) [.str]) (.cmp .eq (.var 0) (.var 1)))) .nil) .nil) (.cons (.iff (.e (.isi (.var 1) [.bool])) (.cons (.ret (.and (.isi (.var 0) [.bool]) (.cmp .eq (.var 0) (.var 1)))) .nil) .nil) (.cons (.ret (.and (.isi (.var 0) [.int]) (.and (.not (.isi (.var 0) [.bool])) (.cmp .eq (.var 0) (.var 1))))) .nil))))) }
/-- 17: _law_fraction; slots 0 n 1 d 2 a 3 b -/
def f_law_fraction : F := { np := 2, ns := 4, rf := [false, false], body := (.cons (.asg (.nm 2) (.bi .abs (.cons (.var 0) .nil))) (.cons (.asg (.nm 3) (.bi .abs (.cons (.var 1) .nil))) (.cons (.whl (.e (.cmp .gt (.var 2) (.cst (.int 0)))) (.cons (.par [2, 3] (.cons (.bin .mod (.bi .int (.cons (.var 3) .nil)) (.var 2)) (.cons (.var 2) .nil))) .nil)) (.cons (.iff (.e (.cmp .lt (.var 1) (.cst (.int 0)))) (.cons (.asg (.nm 3) (.neg (.var 3))) .nil) .nil) (.cons (.ret (.tup (.cons (.bin .fdiv (.var 0) (.var 3)) (.cons (.bin .fdiv (.var 1) (.var 3)) .nil)))) .nil))))) }
/-- 18: _law_plus; slots 0 a 1 b -/
def f_law_plus : F := { np := 2, ns := 2, rf := [false, false], body := (.cons (.ret (.call 17 (.cons (.bin .add (.bin .mul (.ix (.var 0) (.cst (.int 0))) (.ix (.var 1) (.cst (.int 1)))) (.bin .mul (.ix (.var 1) (.cst (.int 0))) (.ix (.var 0) (.cst (.int 1))))) (.cons (.bin .mul (.ix (.var 0) (.cst (.int 1))) (.ix (.var 1) (.cst (.int 1)))) .nil)))) .nil) }
/-- 19: _law_minus; slots 0 a 1 b -/
def f_law_minus : F := { np := 2, ns := 2, rf := [false, false], body := (.cons (.ret (.call 17 (.cons (.bin .sub (.bin .mul (.ix (.var 0) (.cst (.int 0))) (.ix (.var 1) (.cst (.int 1)))) (.bin .mul (.ix (.var 1) (.cst (.int 0))) (.ix (.var 0) (.cst (.int 1))))) (.cons (.bin .mul (.ix (.var 0) (.cst (.int 1))) (.ix (.var 1) (.cst (.int 1)))) .nil)))) .nil) }
/-- 20: _law_turn; slots 0 a 1 b 2 c -/
def f_law_turn : F := { np := 3, ns := 3, rf := [false, false, false], body := (.cons (.ret (.bin .sub (.bin .mul (.bin .sub (.ix (.var 1) (.cst (.int 0))) (.ix (.var 0) (.cst (.int 0)))) (.bin .sub (.ix (.var 2) (.cst (.int 1))) (.ix (.var 0) (.cst (.int 1))))) (.bin .mul (.bin .sub (.ix (.var 1) (.cst (.int 1))) (.ix (.var 0) (.cst (.int 1)))) (.bin .sub (.ix (.var 2) (.cst (.int 0))) (.ix (.var 0) (.cst (.int 0))))))) .nil) }
/-- 21: _law_box; slots 0 x 1 y 2 wide 3 high -/
def f_law_box : F := { np := 4, ns := 4, rf := [false, false, false, false], body := (.cons (.ret (.lst (.cons (.tup (.cons (.var 0) (.cons (.var 1) .nil))) (.cons (.tup (.cons (.bin .add (.var 0) (.var 2)) (.cons (.var 1) .nil))) (.cons (.tup (.cons (.bin .add (.var 0) (.var 2)) (.cons (.bin .add (.var 1) (.var 3)) .nil))) (.cons (.tup (.cons (.var 0) (.cons (.bin .add (.var 1) (.var 3)) .nil))) .nil)))))) .nil) }
/-- 22: _law_triangle; slots 0 stream 1 x 2 y 3 a 4 b 5 turn -/
def f_law_triangle : F := { np := 3, ns := 6, rf := [true, false, false], body := (.cons (.asg (.nm 3) (.tup (.cons (.bin .sub (.bin .add (.var 1) (.call 15 (.cons (.var 0) (.cons (.cst (.int 200)) .nil)))) (.cst (.int 100))) (.cons (.bin .sub (.bin .add (.var 2) (.call 15 (.cons (.var 0) (.cons (.cst (.int 200)) .nil)))) (.cst (.int 100))) .nil)))) (.cons (.asg (.nm 4) (.tup (.cons (.bin .sub (.bin .add (.var 1) (.call 15 (.cons (.var 0) (.cons (.cst (.int 200)) .nil)))) (.cst (.int 100))) (.cons (.bin .add (.var 2) (.bin .mul (.call 15 (.cons (.var 0) (.cons (.cst (.int 3)) .nil))) (.call 15 (.cons (.var 0) (.cons (.cst (.int 60)) .nil))))) .nil)))) (.cons (.asg (.nm 5) (.call 20 (.cons (.tup (.cons (.var 1) (.cons (.var 2) .nil))) (.cons (.var 3) (.cons (.var 4) .nil))))) (.cons (.iff (.e (.cmp .eq (.var 5) (.cst (.int 0)))) (.cons (.ret (.lst (.cons (.tup (.cons (.var 1) (.cons (.var 2) .nil))) (.cons (.tup (.cons (.bin .add (.var 1) (.cst (.int 50))) (.cons (.var 2) .nil))) (.cons (.tup (.cons (.bin .add (.var 1) (.cst (.int 20))) (.cons (.bin .add (.var 2) (.cst (.int 40))) .nil))) .nil))))) .nil) .nil) (.cons (.iff (.e (.cmp .lt (.var 5) (.cst (.int 0)))) (.cons (.ret (.lst (.cons (.tup (.cons (.var 1) (.cons (.var 2) .nil))) (.cons (.var 4) (.cons (.var 3) .nil))))) .nil) .nil) (.cons (.ret (.lst (.cons (.tup (.cons (.var 1) (.cons (.var 2) .nil))) (.cons (.var 3) (.cons (.var 4) .nil))))) .nil)))))) }
/-- 23: _law_shape; slots 0 stream 1 kinds 2 kind 3 x 4 y 5 wide 6 high 7 right 8 other 9 cut 10 a 11 b 12 corners 13 inner 14 outer -/
def f_law_shape : F := { np := 2, ns := 15, rf := [true, false], body := (.cons (.asg (.nm 2) (.call 15 (.cons (.var 0) (.cons (.var 1) .nil)))) (.cons (.asg (.nm 3) (.bin .sub (.call 15 (.cons (.var 0) (.cons (.cst (.int 400)) .nil))) (.cst (.int 150)))) (.cons (.asg (.nm 4) (.bin .sub (.bin .mul (.call 15 (.cons (.var 0) (.cons (.cst (.int 5)) .nil))) (.call 15 (.cons (.var 0) (.cons (.cst (.int 60)) .nil)))) (.cst (.int 60)))) (.cons (.asg (.nm 5) (.bin .add (.call 15 (.cons (.var 0) (.cons (.cst (.int 150)) .nil))) (.cst (.int 1)))) (.cons (.asg (.nm 6) (.bin .add (.call 15 (.cons (.var 0) (.cons (.cst (.int 150)) .nil))) (.cst (.int 1)))) (.cons (.iff (.e (.cmp .eq (.var 2) (.cst (.int 0)))) (.cons (.ret (.tup (.cons (.lst (.cons (.call 21 (.cons (.var 3) (.cons (.var 4) (.cons (.var 5) (.cons (.var 6) .nil))))) .nil)) (.cons (.lst .nil) .nil)))) .nil) .nil) (.cons (.iff (.e (.cmp .eq (.var 2) (.cst (.int 1)))) (.cons (.ret (.tup (.cons (.lst (.cons (.call 22 (.cons (.var 0) (.cons (.var 3) (.cons (.var 4) .nil)))) .nil)) (.cons (.lst .nil) .nil)))) .nil) .nil) (.cons (.iff (.e (.cmp .eq (.var 2) (.cst (.int 2)))) (.cons (.asg (.nm 7) (.bin .add (.bin .add (.bin .add (.var 3) (.var 5)) (.cst (.int 1))) (.call 15 (.cons (.var 0) (.cons (.cst (.int 80)) .nil))))) (.cons (.asg (.nm 8) (.call 21 (.cons (.var 7) (.cons (.bin .sub (.bin .add (.var 4) (.bin .mul (.call 15 (.cons (.var 0) (.cons (.cst (.int 3)) .nil))) (.call 15 (.cons (.var 0) (.cons (.cst (.int 90)) .nil))))) (.cst (.int 40))) (.cons (.bin .add (.cst (.int 1)) (.call 15 (.cons (.var 0) (.cons (.cst (.int 90)) .nil)))) (.cons (.var 6) .nil)))))) (.cons (.ret (.tup (.cons (.lst (.cons (.call 21 (.cons (.var 3) (.cons (.var 4) (.cons (.var 5) (.cons (.var 6) .nil))))) (.cons (.var 8) .nil))) (.cons (.lst .nil) .nil)))) .nil))) .nil) (.cons (.iff (.e (.cmp .eq (.var 2) (.cst (.int 3)))) (.cons (.asg (.nm 9) (.bin .add (.cst (.int 1)) (.call 15 (.cons (.var 0) (.cons (.cst (.int 20)) .nil))))) (.cons (.asg (.nm 10) (.bin .add (.bin .add (.var 3) (.var 5)) (.var 9))) (.cons (.asg (.nm 11) (.bin .add (.bin .add (.var 4) (.var 6)) (.var 9))) (.cons (.asg (.nm 12) (.lst (.cons (.tup (.cons (.bin .add (.var 3) (.var 9)) (.cons (.var 4) .nil))) (.cons (.tup (.cons (.var 10) (.cons (.var 4) .nil))) (.cons (.tup (.cons (.bin .add (.var 10) (.var 9)) (.cons (.bin .add (.var 4) (.var 9)) .nil))) (.cons (.tup (.cons (.bin .add (.var 10) (.var 9)) (.cons (.var 11) .nil))) (.cons (.tup (.cons (.var 10) (.cons (.bin .add (.var 11) (.var 9)) .nil))) (.cons (.tup (.cons (.bin .add (.var 3) (.var 9)) (.cons (.bin .add (.var 11) (.var 9)) .nil))) .nil)))))))) (.cons (.ret (.tup (.cons (.lst (.cons (.bin .add (.var 12) (.lst (.cons (.tup (.cons (.var 3) (.cons (.var 11) .nil))) (.cons (.tup (.cons (.var 3) (.cons (.bin .add (.var 4) (.var 9)) .nil))) .nil)))) .nil)) (.cons (.lst .nil) .nil)))) .nil))))) .nil) (.cons (.iff (.e (.cmp .eq (.var 2) (.cst (.int 4)))) (.cons (.asg (.nm 13) (.call 21 (.cons (.bin .add (.bin .add (.var 3) (.cst (.int 1))) (.call 15 (.cons (.var 0) (.cons (.cst (.int 20)) .nil)))) (.cons (.bin .add (.bin .add (.var 4) (.cst (.int 1))) (.call 15 (.cons (.var 0) (.cons (.cst (.int 20)) .nil)))) (.cons (.var 5) (.cons (.var 6) .nil)))))) (.cons (.asg (.nm 14) (.tup (.cons (.bin .sub (.bin .add (.bin .add (.ix (.ix (.var 13) (.cst (.int 2))) (.cst (.int 0))) (.cst (.int 1))) (.call 15 (.cons (.var 0) (.cons (.cst (.int 20)) .nil)))) (.var 3)) (.cons (.bin .sub (.bin .add (.bin .add (.ix (.ix (.var 13) (.cst (.int 2))) (.cst (.int 1))) (.cst (.int 1))) (.call 15 (.cons (.var 0) (.cons (.cst (.int 20)) .nil)))) (.var 4)) .nil)))) (.cons (.ret (.tup (.cons (.lst (.cons (.call 21 (.cons (.var 3) (.cons (.var 4) (.cons (.ix (.var 14) (.cst (.int 0))) (.cons (.ix (.var 14) (.cst (.int 1))) .nil))))) .nil)) (.cons (.lst (.cons (.var 13) .nil)) .nil)))) .nil))) .nil) (.cons (.ret (.tup (.cons (.lst .nil) (.cons (.lst .nil) .nil)))) .nil))))))))))) }
/-- 24: _law_edges; slots 0 shape 1 edges 2 points 3 hole 4 k 5 a 6 b -/
def f_law_edges : F := { np := 1, ns := 7, rf := [false], body := (.cons (.asg (.nm 1) (.lst .nil)) (.cons (.for_ (.nm 2) (.e (.bin .add (.ix (.var 0) (.cst (.int 0))) (.lc (.rev (.var 3)) (.nm 3) (.e (.ix (.var 0) (.cst (.int 1)))) .no [3]))) (.cons (.for_ (.nm 4) (.r1 (.bi .len (.cons (.var 2) .nil))) (.cons (.asg (.nm 5) (.ix (.var 2) (.bin .sub (.var 4) (.cst (.int 1))))) (.cons (.asg (.nm 6) (.ix (.var 2) (.var 4))) (.cons (.app (.var 1) (.tup (.cons (.ix (.var 5) (.cst (.int 1))) (.cons (.ix (.var 5) (.cst (.int 0))) (.cons (.ix (.var 6) (.cst (.int 1))) (.cons (.ix (.var 6) (.cst (.int 0))) .nil)))))) .nil)))) .nil)) (.cons (.ret (.bi .sorted (.cons (.var 1) .nil))) .nil))) }
/-- 25: _law_border; slots 0 edges 1 parts 2 shift 3 told 4 b 5 a 6 d 7 c 8 first 9 second -/
def f_law_border : F := { np := 3, ns := 10, rf := [false, false, false], body := (.cons (.asg (.nm 3) (.lst .nil)) (.cons (.for_ (.tp [4, 5, 6, 7]) (.e (.var 0)) (.cons (.asg (.nm 8) (.tup (.cons (.call 18 (.cons (.tup (.cons (.var 5) (.cons (.var 1) .nil))) (.cons (.var 2) .nil))) (.cons (.call 17 (.cons (.var 4) (.cons (.var 1) .nil))) .nil)))) (.cons (.asg (.nm 9) (.tup (.cons (.call 18 (.cons (.tup (.cons (.var 7) (.cons (.var 1) .nil))) (.cons (.var 2) .nil))) (.cons (.call 17 (.cons (.var 6) (.cons (.var 1) .nil))) .nil)))) (.cons (.app (.var 3) (.tup (.cons (.var 8) (.cons (.var 9) .nil)))) .nil)))) (.cons (.ret (.bi .tuple (.cons (.var 3) .nil))) .nil))) }
/-- 26: _law_least; slots 0 edges 1 edge -/
def f_law_least : F := { np := 1, ns := 2, rf := [false], body := (.cons (.ret (.bi .min (.cons (.lc (.bi .min (.cons (.ix (.var 1) (.cst (.int 1))) (.cons (.ix (.var 1) (.cst (.int 3))) .nil))) (.nm 1) (.e (.var 0)) .no [1]) .nil))) .nil) }
/-- 27: _law_mark; slots 0 stream -/
def f_law_mark : F := { np := 1, ns := 1, rf := [true], body := (.cons (.ret (.tup (.cons (.call 24 (.cons (.call 23 (.cons (.var 0) (.cons (.cst (.int 5)) .nil))) .nil)) (.cons (.ix (.lst (.cons (.cst (.int 1)) (.cons (.cst (.int 1)) (.cons (.cst (.int 2)) (.cons (.cst (.int 3)) (.cons (.cst (.int 7)) .nil)))))) (.call 15 (.cons (.var 0) (.cons (.cst (.int 5)) .nil)))) .nil)))) .nil) }
/-- 28: _law_small; slots 0 stream 1 number -/
def f_law_small : F := { np := 1, ns := 2, rf := [true], body := (.cons (.asg (.nm 1) (.bin .sub (.call 15 (.cons (.var 0) (.cons (.cst (.int 8)) .nil))) (.cst (.int 3)))) (.cons (.iff (.e (.cmp .eq (.call 15 (.cons (.var 0) (.cons (.cst (.int 3)) .nil))) (.cst (.int 0)))) (.cons (.asg (.nm 1) (.bin .sub (.call 15 (.cons (.var 0) (.cons (.cst (.int 2000001)) .nil))) (.cst (.int 1000000)))) .nil) .nil) (.cons (.ret (.call 17 (.cons (.var 1) (.cons (.ix (.lst (.cons (.cst (.int 1)) (.cons (.cst (.int 1)) (.cons (.cst (.int 2)) (.cons (.cst (.int 3)) (.cons (.cst (.int 64)) .nil)))))) (.call 15 (.cons (.var 0) (.cons (.cst (.int 5)) .nil)))) .nil)))) .nil))) }
/-- 29: _law_trace; slots 0 stream 1 pool 2 many 3 marks 4 k -/
def f_law_trace : F := { np := 3, ns := 5, rf := [true, true, false], body := (.cons (.asg (.nm 3) (.lst .nil)) (.cons (.for_ (.nm 4) (.r1 (.var 2)) (.cons (.app (.var 3) (.tup (.cons (.call 28 (.cons (.var 0) .nil)) (.cons (.ix (.var 1) (.call 15 (.cons (.var 0) (.cons (.bi .len (.cons (.var 1) .nil)) .nil)))) .nil)))) .nil)) (.cons (.ret (.tup (.cons (.bi .tuple (.cons (.var 3) .nil)) (.cons (.call 28 (.cons (.var 0) .nil)) .nil)))) .nil))) }
/-- 30: _law_join; slots 0 first 1 second 2 advance 3 mark -/
def f_law_join : F := { np := 2, ns := 4, rf := [false, false], body := (.cons (.iff (.e (.cmp .eq (.bi .len (.cons (.ix (.var 1) (.cst (.int 0))) .nil)) (.cst (.int 0)))) (.cons (.ret (.tup (.cons (.ix (.var 0) (.cst (.int 0))) (.cons (.call 18 (.cons (.ix (.var 0) (.cst (.int 1))) (.cons (.ix (.var 1) (.cst (.int 1))) .nil))) .nil)))) .nil) .nil) (.cons (.asg (.tp [2, 3]) (.ix (.ix (.var 1) (.cst (.int 0))) (.cst (.int 0)))) (.cons (.ret (.tup (.cons (.bin .add (.bin .add (.ix (.var 0) (.cst (.int 0))) (.tup (.cons (.tup (.cons (.call 18 (.cons (.ix (.var 0) (.cst (.int 1))) (.cons (.var 2) .nil))) (.cons (.var 3) .nil))) .nil))) (.slc (.ix (.var 1) (.cst (.int 0))) (.yes (.cst (.int 1))) .no)) (.cons (.ix (.var 1) (.cst (.int 1))) .nil)))) .nil))) }
/-- 31: _law_earlier; slots 0 trace 1 rest 2 advance 3 mark -/
def f_law_earlier : F := { np := 2, ns := 4, rf := [false, false], body := (.cons (.iff (.e (.cmp .eq (.bi .len (.cons (.ix (.var 0) (.cst (.int 0))) .nil)) (.cst (.int 0)))) (.cons (.ret (.tup (.cons (.ix (.var 0) (.cst (.int 0))) (.cons (.call 19 (.cons (.ix (.var 0) (.cst (.int 1))) (.cons (.var 1) .nil))) .nil)))) .nil) .nil) (.cons (.asg (.tp [2, 3]) (.ix (.ix (.var 0) (.cst (.int 0))) (.cst (.int 0)))) (.cons (.ret (.tup (.cons (.bin .add (.tup (.cons (.tup (.cons (.call 19 (.cons (.var 2) (.cons (.var 1) .nil))) (.cons (.var 3) .nil))) .nil)) (.slc (.ix (.var 0) (.cst (.int 0))) (.yes (.cst (.int 1))) .no)) (.cons (.ix (.var 0) (.cst (.int 1))) .nil)))) .nil))) }
/-- 32: _law_lead; slots 0 first 1 second 2 at 3 k 4 a 5 b -/
def f_law_lead : F := { np := 2, ns := 6, rf := [false, false], body := (.cons (.asg (.nm 2) (.cst (.int 0))) (.cons (.for_ (.nm 3) (.r1 (.bi .min (.cons (.bi .len (.cons (.ix (.var 0) (.cst (.int 0))) .nil)) (.cons (.bi .len (.cons (.ix (.var 1) (.cst (.int 0))) .nil)) .nil)))) (.cons (.iff (.and (.e (.cmp .eq (.var 2) (.var 3))) (.e (.cmp .eq (.ix (.ix (.var 0) (.cst (.int 0))) (.var 3)) (.ix (.ix (.var 1) (.cst (.int 0))) (.var 3))))) (.cons (.asg (.nm 2) (.bin .add (.var 3) (.cst (.int 1)))) .nil) .nil) .nil)) (.cons (.asg (.nm 4) (.tup (.cons (.slc (.ix (.var 0) (.cst (.int 0))) (.yes (.var 2)) .no) (.cons (.ix (.var 0) (.cst (.int 1))) .nil)))) (.cons (.asg (.nm 5) (.tup (.cons (.slc (.ix (.var 1) (.cst (.int 0))) (.yes (.var 2)) .no) (.cons (.ix (.var 1) (.cst (.int 1))) .nil)))) (.cons (.iff (.and (.e (.cmp .gt (.bi .len (.cons (.ix (.var 4) (.cst (.int 0))) .nil)) (.cst (.int 0)))) (.e (.cmp .gt (.bi .len (.cons (.ix (.var 5) (.cst (.int 0))) .nil)) (.cst (.int 0))))) (.cons (.ret (.cst .non)) .nil) .nil) (.cons (.iff (.e (.cmp .eq (.bi .len (.cons (.ix (.var 5) (.cst (.int 0))) .nil)) (.cst (.int 0)))) (.cons (.ret (.tup (.cons (.call 31 (.cons (.var 4) (.cons (.ix (.var 5) (.cst (.int 1))) .nil))) (.cons (.tup (.cons (.tup .nil) (.cons (.tup (.cons (.cst (.int 0)) (.cons (.cst (.int 1)) .nil))) .nil))) .nil)))) .nil) .nil) (.cons (.ret (.tup (.cons (.tup (.cons (.tup .nil) (.cons (.tup (.cons (.cst (.int 0)) (.cons (.cst (.int 1)) .nil))) .nil))) (.cons (.call 31 (.cons (.var 5) (.cons (.ix (.var 4) (.cst (.int 1))) .nil))) .nil)))) .nil))))))) }
/-- 33: _law_size; slots 0 stream -/
def f_law_size : F := { np := 1, ns := 1, rf := [true], body := (.cons (.iff (.e (.cmp .eq (.call 15 (.cons (.var 0) (.cons (.cst (.int 24)) .nil))) (.cst (.int 0)))) (.cons (.ret (.call 15 (.cons (.var 0) (.cons (.cst (.int 60)) .nil)))) .nil) .nil) (.cons (.ret (.bin .mod (.bi .int (.cons (.call 15 (.cons (.var 0) (.cons (.cst (.int 6)) .nil))) .nil)) (.cst (.int 4)))) .nil)) }
/-- 34: _law_two_traces; slots 0 stream 1 pool 2 head 3 first 4 second 5 kind 6 other -/
def f_law_two_traces : F := { np := 2, ns := 7, rf := [true, true], body := (.cons (.asg (.nm 2) (.ix (.call 29 (.cons (.var 0) (.cons (.var 1) (.cons (.call 33 (.cons (.var 0) .nil)) .nil)))) (.cst (.int 0)))) (.cons (.asg (.nm 3) (.call 29 (.cons (.var 0) (.cons (.var 1) (.cons (.call 33 (.cons (.var 0) .nil)) .nil))))) (.cons (.asg (.nm 4) (.call 29 (.cons (.var 0) (.cons (.var 1) (.cons (.call 33 (.cons (.var 0) .nil)) .nil))))) (.cons (.asg (.nm 5) (.call 15 (.cons (.var 0) (.cons (.cst (.int 8)) .nil)))) (.cons (.iff (.e (.cmp .lt (.var 5) (.cst (.int 2)))) (.cons (.asg (.nm 3) (.tup (.cons (.tup .nil) (.cons (.ix (.var 3) (.cst (.int 1))) .nil)))) .nil) .nil) (.cons (.iff (.and (.e (.cmp .gt (.var 5) (.cst (.int 0)))) (.e (.cmp .lt (.var 5) (.cst (.int 4))))) (.cons (.asg (.nm 4) (.tup (.cons (.tup .nil) (.cons (.ix (.var 4) (.cst (.int 1))) .nil)))) .nil) .nil) (.cons (.iff (.e (.cmp .eq (.var 5) (.cst (.int 4)))) (.cons (.asg (.nm 4) (.tup (.cons (.ix (.var 3) (.cst (.int 0))) (.cons (.ix (.var 4) (.cst (.int 1))) .nil)))) .nil) .nil) (.cons (.iff (.e (.cmp .eq (.var 5) (.cst (.int 5)))) (.cons (.mov 4 3) .nil) .nil) (.cons (.iff (.and (.e (.cmp .eq (.var 5) (.cst (.int 6)))) (.e (.cmp .gt (.bi .len (.cons (.ix (.var 3) (.cst (.int 0))) .nil)) (.cst (.int 0))))) (.cons (.asg (.nm 6) (.call 18 (.cons (.ix (.ix (.ix (.var 3) (.cst (.int 0))) (.neg (.cst (.int 1)))) (.cst (.int 0))) (.cons (.tup (.cons (.cst (.int 1)) (.cons (.bin .add (.cst (.int 1)) (.call 15 (.cons (.var 0) (.cons (.cst (.int 99)) .nil)))) .nil))) .nil)))) (.cons (.asg (.nm 4) (.tup (.cons (.bin .add (.slc (.ix (.var 3) (.cst (.int 0))) .no (.yes (.neg (.cst (.int 1))))) (.tup (.cons (.tup (.cons (.var 6) (.cons (.ix (.ix (.ix (.var 3) (.cst (.int 0))) (.neg (.cst (.int 1)))) (.cst (.int 1))) .nil))) .nil))) (.cons (.ix (.var 3) (.cst (.int 1))) .nil)))) .nil)) .nil) (.cons (.iff (.and (.e (.cmp .eq (.var 5) (.cst (.int 7)))) (.e (.cmp .gt (.bi .len (.cons (.ix (.var 3) (.cst (.int 0))) .nil)) (.cst (.int 0))))) (.cons (.asg (.nm 6) (.ix (.var 1) (.call 15 (.cons (.var 0) (.cons (.bi .len (.cons (.var 1) .nil)) .nil))))) (.cons (.asg (.nm 4) (.tup (.cons (.bin .add (.slc (.ix (.var 3) (.cst (.int 0))) .no (.yes (.neg (.cst (.int 1))))) (.tup (.cons (.tup (.cons (.ix (.ix (.ix (.var 3) (.cst (.int 0))) (.neg (.cst (.int 1)))) (.cst (.int 0))) (.cons (.var 6) .nil))) .nil))) (.cons (.ix (.var 3) (.cst (.int 1))) .nil)))) .nil)) .nil) (.cons (.ret (.tup (.cons (.tup (.cons (.bin .add (.var 2) (.ix (.var 3) (.cst (.int 0)))) (.cons (.ix (.var 3) (.cst (.int 1))) .nil))) (.cons (.tup (.cons (.bin .add (.var 2) (.ix (.var 4) (.cst (.int 0)))) (.cons (.ix (.var 4) (.cst (.int 1))) .nil))) .nil)))) .nil))))))))))) }
/-- 35: _law_glyph_holds; slots 0 stream 1 mark 2 shift 3 width 4 least 5 moved 6 due -/
def f_law_glyph_holds : F := { np := 1, ns := 7, rf := [true], body := (.cons (.asg (.nm 1) (.call 27 (.cons (.var 0) .nil))) (.cons (.asg (.nm 2) (.call 28 (.cons (.var 0) .nil))) (.cons (.asg (.nm 3) (.ix (.lst (.cons (.call 15 (.cons (.var 0) (.cons (.cst (.int 6401)) .nil))) (.cons (.cst (.int 0)) (.cons (.cst (.int 64)) .nil)))) (.call 15 (.cons (.var 0) (.cons (.cst (.int 3)) .nil))))) (.cons (.asg (.nm 4) (.call 18 (.cons (.call 17 (.cons (.call 26 (.cons (.ix (.var 1) (.cst (.int 0))) .nil)) (.cons (.ix (.var 1) (.cst (.int 1))) .nil))) (.cons (.var 2) .nil)))) (.cons (.asg (.nm 5) (.call 25 (.cons (.ix (.var 1) (.cst (.int 0))) (.cons (.ix (.var 1) (.cst (.int 1))) (.cons (.call 19 (.cons (.var 2) (.cons (.var 4) .nil))) .nil))))) (.cons (.asg (.nm 6) (.tup (.cons (.tup (.cons (.tup (.cons (.var 4) (.cons (.var 5) .nil))) .nil)) (.cons (.call 19 (.cons (.tup (.cons (.var 3) (.cons (.cst (.int 1)) .nil))) (.cons (.var 4) .nil))) .nil)))) (.cons (.iff (.not (.e (.call 16 (.cons (.call 8 (.cons (.call 25 (.cons (.ix (.var 1) (.cst (.int 0))) (.cons (.ix (.var 1) (.cst (.int 1))) (.cons (.var 2) .nil)))) (.cons (.var 3) .nil))) (.cons (.var 6) .nil))))) (.cons (.ret (.cst (.bl false))) .nil) .nil) (.cons (.ret (.call 16 (.cons (.call 8 (.cons (.tup .nil) (.cons (.var 3) .nil))) (.cons (.tup (.cons (.tup .nil) (.cons (.tup (.cons (.var 3) (.cons (.cst (.int 1)) .nil))) .nil))) .nil)))) .nil)))))))) }
/-- 36: _law_joins_hold; slots 0 one 1 two 2 three 3 both 4 due -/
def f_law_joins_hold : F := { np := 3, ns := 5, rf := [false, false, false], body := (.cons (.asg (.nm 3) (.call 30 (.cons (.var 0) (.cons (.var 1) .nil)))) (.cons (.iff (.or (.not (.e (.call 16 (.cons (.call 9 (.cons (.var 0) (.cons (.var 1) .nil))) (.cons (.var 3) .nil))))) (.not (.e (.call 16 (.cons (.call 9 (.cons (.var 1) (.cons (.var 2) .nil))) (.cons (.call 30 (.cons (.var 1) (.cons (.var 2) .nil))) .nil)))))) (.cons (.ret (.cst (.bl false))) .nil) .nil) (.cons (.asg (.nm 4) (.call 30 (.cons (.var 3) (.cons (.var 2) .nil)))) (.cons (.iff (.not (.e (.call 16 (.cons (.call 9 (.cons (.call 9 (.cons (.var 0) (.cons (.var 1) .nil))) (.cons (.var 2) .nil))) (.cons (.var 4) .nil))))) (.cons (.ret (.cst (.bl false))) .nil) .nil) (.cons (.iff (.not (.e (.call 16 (.cons (.call 9 (.cons (.var 0) (.cons (.call 9 (.cons (.var 1) (.cons (.var 2) .nil))) .nil))) (.cons (.var 4) .nil))))) (.cons (.ret (.cst (.bl false))) .nil) .nil) (.cons (.ret (.and (.call 16 (.cons (.call 9 (.cons (.var 0) (.cons (.glb [69, 77, 80, 84, 89] (.tup [(.tup []), (.tup [(.int 0), (.int 1)])])) .nil))) (.cons (.var 0) .nil))) (.call 16 (.cons (.call 9 (.cons (.glb [69, 77, 80, 84, 89] (.tup [(.tup []), (.tup [(.int 0), (.int 1)])])) (.cons (.var 1) .nil))) (.cons (.var 1) .nil))))) .nil)))))) }
/-- 37: _law_leads_hold; slots 0 u 1 v 2 s 3 t 4 due 5 after 6 actual -/
def f_law_leads_hold : F := { np := 4, ns := 7, rf := [false, false, false, false], body := (.cons (.asg (.nm 4) (.call 32 (.cons (.var 0) (.cons (.var 1) .nil)))) (.cons (.asg (.nm 5) (.call 32 (.cons (.call 30 (.cons (.var 0) (.cons (.var 2) .nil))) (.cons (.call 30 (.cons (.var 1) (.cons (.var 3) .nil))) .nil)))) (.cons (.asg (.nm 6) (.call 12 (.cons (.var 0) (.cons (.var 1) .nil)))) (.cons (.iff (.or (.not (.e (.call 16 (.cons (.var 6) (.cons (.var 4) .nil))))) (.not (.e (.call 16 (.cons (.call 12 (.cons (.call 9 (.cons (.var 0) (.cons (.var 2) .nil))) (.cons (.call 9 (.cons (.var 1) (.cons (.var 3) .nil))) .nil))) (.cons (.var 5) .nil)))))) (.cons (.ret (.cst (.bl false))) .nil) .nil) (.cons (.iff (.or (.not (.e (.call 16 (.cons (.call 12 (.cons (.var 0) (.cons (.var 0) .nil))) (.cons (.tup (.cons (.tup (.cons (.tup .nil) (.cons (.tup (.cons (.cst (.int 0)) (.cons (.cst (.int 1)) .nil))) .nil))) (.cons (.tup (.cons (.tup .nil) (.cons (.tup (.cons (.cst (.int 0)) (.cons (.cst (.int 1)) .nil))) .nil))) .nil))) .nil))))) (.not (.e (.call 16 (.cons (.call 12 (.cons (.var 1) (.cons (.var 0) .nil))) (.cons (.call 32 (.cons (.var 1) (.cons (.var 0) .nil))) .nil)))))) (.cons (.ret (.cst (.bl false))) .nil) .nil) (.cons (.iff (.e (.cmp .isn (.var 4) (.cst .non))) (.cons (.ret (.cmp .isn (.var 5) (.cst .non))) .nil) .nil) (.cons (.ret (.call 16 (.cons (.call 12 (.cons (.call 9 (.cons (.ix (.var 6) (.cst (.int 0))) (.cons (.var 2) .nil))) (.cons (.call 9 (.cons (.ix (.var 6) (.cst (.int 1))) (.cons (.var 3) .nil))) .nil))) (.cons (.var 5) .nil)))) .nil))))))) }
/-- 38: law; slots 0 script 1 stream 2 pool 3 k 4 edges 5 parts 6 own 7 u 8 v 9 other 10 s 11 t -/
def f_law : F := { np := 1, ns := 12, rf := [false], body := (.cons (.asg (.nm 1) (.call 14 (.cons (.call 13 (.cons (.var 0) (.cons (.cst (.int 0)) .nil))) .nil))) (.cons (.asg (.nm 2) (.lst .nil)) (.cons (.for_ (.nm 3) (.r1 (.bin .add (.call 15 (.cons (.var 1) (.cons (.cst (.int 2)) .nil))) (.cst (.int 2)))) (.cons (.asg (.tp [4, 5]) (.call 27 (.cons (.var 1) .nil))) (.cons (.app (.var 2) (.call 25 (.cons (.var 4) (.cons (.var 5) (.cons (.call 17 (.cons (.neg (.call 26 (.cons (.var 4) .nil))) (.cons (.var 5) .nil))) .nil))))) .nil))) (.cons (.iff (.or (.not (.e (.call 16 (.cons (.glb [69, 77, 80, 84, 89] (.tup [(.tup []), (.tup [(.int 0), (.int 1)])])) (.cons (.tup (.cons (.tup .nil) (.cons (.tup (.cons (.cst (.int 0)) (.cons (.cst (.int 1)) .nil))) .nil))) .nil))))) (.not (.e (.call 35 (.cons (.var 1) .nil))))) (.cons (.ret (.cst (.bl false))) .nil) .nil) (.cons (.asg (.nm 6) (.call 14 (.cons (.call 13 (.cons (.var 0) (.cons (.cst (.int 1)) .nil))) .nil))) (.cons (.asg (.tp [7, 8]) (.call 34 (.cons (.var 6) (.cons (.var 2) .nil)))) (.cons (.asg (.nm 9) (.call 14 (.cons (.call 13 (.cons (.var 0) (.cons (.cst (.int 2)) .nil))) .nil))) (.cons (.asg (.tp [10, 11]) (.call 34 (.cons (.var 9) (.cons (.var 2) .nil)))) (.cons (.iff (.or (.not (.e (.call 36 (.cons (.var 7) (.cons (.var 10) (.cons (.var 11) .nil)))))) (.not (.e (.call 37 (.cons (.var 7) (.cons (.var 8) (.cons (.var 10) (.cons (.var 11) .nil)))))))) (.cons (.ret (.cst (.bl false))) .nil) .nil) (.cons (.ret (.call 37 (.cons (.var 10) (.cons (.var 11) (.cons (.var 7) (.cons (.var 8) .nil)))))) .nil)))))))))) }
def subT : List (Nat × Nat) := [(0, 0), (1, 0), (1, 1)]
def prog : Prog := { fs := [f_fraction, f_plus, f_minus, f_order, f_lesser, f_whole, f_moved_right, f_least_of, f_glyph_trace, f_join_traces, f_moved_back, f_common_count, f_lead, f_law_cell, f_law_stream, f_law_next, f_law_same, f_law_fraction, f_law_plus, f_law_minus, f_law_turn, f_law_box, f_law_triangle, f_law_shape, f_law_edges, f_law_border, f_law_least, f_law_mark, f_law_small, f_law_trace, f_law_join, f_law_earlier, f_law_lead, f_law_size, f_law_two_traces, f_law_glyph_holds, f_law_joins_hold, f_law_leads_hold, f_law], sub := fun x y => subT.contains (x, y) }
-- classes: 0 FontError 1 DivisionByZero
-- fields: 
end K89
end

section
set_option maxRecDepth 100000
set_option Elab.async false
set_option linter.all false
namespace K89
open Pv
theorem g0 (n : Nat) (vs : List SV) : M.call prog (n+1) 0 vs = M.run (M.cx prog n) f_fraction vs := M_call _ _ _ _
theorem rf0 : prog.rfs 0 = [false, false] := rfl
theorem g1 (n : Nat) (vs : List SV) : M.call prog (n+1) 1 vs = M.run (M.cx prog n) f_plus vs := M_call _ _ _ _
theorem rf1 : prog.rfs 1 = [false, false] := rfl
theorem g2 (n : Nat) (vs : List SV) : M.call prog (n+1) 2 vs = M.run (M.cx prog n) f_minus vs := M_call _ _ _ _
theorem rf2 : prog.rfs 2 = [false, false] := rfl
theorem g3 (n : Nat) (vs : List SV) : M.call prog (n+1) 3 vs = M.run (M.cx prog n) f_order vs := M_call _ _ _ _
theorem rf3 : prog.rfs 3 = [false, false] := rfl
theorem g4 (n : Nat) (vs : List SV) : M.call prog (n+1) 4 vs = M.run (M.cx prog n) f_lesser vs := M_call _ _ _ _
theorem rf4 : prog.rfs 4 = [false, false] := rfl
theorem g5 (n : Nat) (vs : List SV) : M.call prog (n+1) 5 vs = M.run (M.cx prog n) f_whole vs := M_call _ _ _ _
theorem rf5 : prog.rfs 5 = [false] := rfl
theorem g6 (n : Nat) (vs : List SV) : M.call prog (n+1) 6 vs = M.run (M.cx prog n) f_moved_right vs := M_call _ _ _ _
theorem rf6 : prog.rfs 6 = [false, false] := rfl
theorem g7 (n : Nat) (vs : List SV) : M.call prog (n+1) 7 vs = M.run (M.cx prog n) f_least_of vs := M_call _ _ _ _
theorem rf7 : prog.rfs 7 = [false] := rfl
theorem g8 (n : Nat) (vs : List SV) : M.call prog (n+1) 8 vs = M.run (M.cx prog n) f_glyph_trace vs := M_call _ _ _ _
theorem rf8 : prog.rfs 8 = [false, false] := rfl
theorem g9 (n : Nat) (vs : List SV) : M.call prog (n+1) 9 vs = M.run (M.cx prog n) f_join_traces vs := M_call _ _ _ _
theorem rf9 : prog.rfs 9 = [false, false] := rfl
theorem g10 (n : Nat) (vs : List SV) : M.call prog (n+1) 10 vs = M.run (M.cx prog n) f_moved_back vs := M_call _ _ _ _
theorem rf10 : prog.rfs 10 = [false, false] := rfl
theorem g11 (n : Nat) (vs : List SV) : M.call prog (n+1) 11 vs = M.run (M.cx prog n) f_common_count vs := M_call _ _ _ _
theorem rf11 : prog.rfs 11 = [false, false] := rfl
theorem g12 (n : Nat) (vs : List SV) : M.call prog (n+1) 12 vs = M.run (M.cx prog n) f_lead vs := M_call _ _ _ _
theorem rf12 : prog.rfs 12 = [false, false] := rfl
theorem g13 (n : Nat) (vs : List SV) : M.call prog (n+1) 13 vs = M.run (M.cx prog n) f_law_cell vs := M_call _ _ _ _
theorem rf13 : prog.rfs 13 = [false, false] := rfl
theorem g14 (n : Nat) (vs : List SV) : M.call prog (n+1) 14 vs = M.run (M.cx prog n) f_law_stream vs := M_call _ _ _ _
theorem rf14 : prog.rfs 14 = [false] := rfl
theorem g15 (n : Nat) (vs : List SV) : M.call prog (n+1) 15 vs = M.run (M.cx prog n) f_law_next vs := M_call _ _ _ _
theorem rf15 : prog.rfs 15 = [true, false] := rfl
theorem g16 (n : Nat) (vs : List SV) : M.call prog (n+1) 16 vs = M.run (M.cx prog n) f_law_same vs := M_call _ _ _ _
theorem rf16 : prog.rfs 16 = [false, false] := rfl
theorem g17 (n : Nat) (vs : List SV) : M.call prog (n+1) 17 vs = M.run (M.cx prog n) f_law_fraction vs := M_call _ _ _ _
theorem rf17 : prog.rfs 17 = [false, false] := rfl
theorem g18 (n : Nat) (vs : List SV) : M.call prog (n+1) 18 vs = M.run (M.cx prog n) f_law_plus vs := M_call _ _ _ _
theorem rf18 : prog.rfs 18 = [false, false] := rfl
theorem g19 (n : Nat) (vs : List SV) : M.call prog (n+1) 19 vs = M.run (M.cx prog n) f_law_minus vs := M_call _ _ _ _
theorem rf19 : prog.rfs 19 = [false, false] := rfl
theorem g20 (n : Nat) (vs : List SV) : M.call prog (n+1) 20 vs = M.run (M.cx prog n) f_law_turn vs := M_call _ _ _ _
theorem rf20 : prog.rfs 20 = [false, false, false] := rfl
theorem g21 (n : Nat) (vs : List SV) : M.call prog (n+1) 21 vs = M.run (M.cx prog n) f_law_box vs := M_call _ _ _ _
theorem rf21 : prog.rfs 21 = [false, false, false, false] := rfl
theorem g22 (n : Nat) (vs : List SV) : M.call prog (n+1) 22 vs = M.run (M.cx prog n) f_law_triangle vs := M_call _ _ _ _
theorem rf22 : prog.rfs 22 = [true, false, false] := rfl
theorem g23 (n : Nat) (vs : List SV) : M.call prog (n+1) 23 vs = M.run (M.cx prog n) f_law_shape vs := M_call _ _ _ _
theorem rf23 : prog.rfs 23 = [true, false] := rfl
theorem g24 (n : Nat) (vs : List SV) : M.call prog (n+1) 24 vs = M.run (M.cx prog n) f_law_edges vs := M_call _ _ _ _
theorem rf24 : prog.rfs 24 = [false] := rfl
theorem g25 (n : Nat) (vs : List SV) : M.call prog (n+1) 25 vs = M.run (M.cx prog n) f_law_border vs := M_call _ _ _ _
theorem rf25 : prog.rfs 25 = [false, false, false] := rfl
theorem g26 (n : Nat) (vs : List SV) : M.call prog (n+1) 26 vs = M.run (M.cx prog n) f_law_least vs := M_call _ _ _ _
theorem rf26 : prog.rfs 26 = [false] := rfl
theorem g27 (n : Nat) (vs : List SV) : M.call prog (n+1) 27 vs = M.run (M.cx prog n) f_law_mark vs := M_call _ _ _ _
theorem rf27 : prog.rfs 27 = [true] := rfl
theorem g28 (n : Nat) (vs : List SV) : M.call prog (n+1) 28 vs = M.run (M.cx prog n) f_law_small vs := M_call _ _ _ _
theorem rf28 : prog.rfs 28 = [true] := rfl
theorem g29 (n : Nat) (vs : List SV) : M.call prog (n+1) 29 vs = M.run (M.cx prog n) f_law_trace vs := M_call _ _ _ _
theorem rf29 : prog.rfs 29 = [true, true, false] := rfl
theorem g30 (n : Nat) (vs : List SV) : M.call prog (n+1) 30 vs = M.run (M.cx prog n) f_law_join vs := M_call _ _ _ _
theorem rf30 : prog.rfs 30 = [false, false] := rfl
theorem g31 (n : Nat) (vs : List SV) : M.call prog (n+1) 31 vs = M.run (M.cx prog n) f_law_earlier vs := M_call _ _ _ _
theorem rf31 : prog.rfs 31 = [false, false] := rfl
theorem g32 (n : Nat) (vs : List SV) : M.call prog (n+1) 32 vs = M.run (M.cx prog n) f_law_lead vs := M_call _ _ _ _
theorem rf32 : prog.rfs 32 = [false, false] := rfl
theorem g33 (n : Nat) (vs : List SV) : M.call prog (n+1) 33 vs = M.run (M.cx prog n) f_law_size vs := M_call _ _ _ _
theorem rf33 : prog.rfs 33 = [true] := rfl
theorem g34 (n : Nat) (vs : List SV) : M.call prog (n+1) 34 vs = M.run (M.cx prog n) f_law_two_traces vs := M_call _ _ _ _
theorem rf34 : prog.rfs 34 = [true, true] := rfl
theorem g35 (n : Nat) (vs : List SV) : M.call prog (n+1) 35 vs = M.run (M.cx prog n) f_law_glyph_holds vs := M_call _ _ _ _
theorem rf35 : prog.rfs 35 = [true] := rfl
theorem g36 (n : Nat) (vs : List SV) : M.call prog (n+1) 36 vs = M.run (M.cx prog n) f_law_joins_hold vs := M_call _ _ _ _
theorem rf36 : prog.rfs 36 = [false, false, false] := rfl
theorem g37 (n : Nat) (vs : List SV) : M.call prog (n+1) 37 vs = M.run (M.cx prog n) f_law_leads_hold vs := M_call _ _ _ _
theorem rf37 : prog.rfs 37 = [false, false, false, false] := rfl
theorem g38 (n : Nat) (vs : List SV) : M.call prog (n+1) 38 vs = M.run (M.cx prog n) f_law vs := M_call _ _ _ _
theorem rf38 : prog.rfs 38 = [false] := rfl
end K89
end

section
set_option Elab.async false
set_option linter.all false
/-! Fr: fractions with denominators that divide N. -/
namespace Pv
class Nice (N : Int) : Prop where
  pos : 0 < N
  lt : N < 1073741824
def gz (N z : Int) : Int := (Int.gcd z N : Int)
def fn_ (N z : Int) : Int := z / gz N z
def fd_ (N z : Int) : Int := N / gz N z
def fr (N z : Int) : D := .tup [.int (fn_ N z), .int (fd_ N z)]
section
variable (N : Int) [hN : Nice N]
theorem gz_pos (z : Int) : 0 < gz N z := by
  have := Int.gcd_pos_of_ne_zero_right z (show (N : Int) ≠ 0 by have := hN.pos; omega)
  unfold gz; omega
theorem gz_l (z : Int) : gz N z ∣ z := Int.gcd_dvd_left z N
theorem gz_r (z : Int) : gz N z ∣ N := Int.gcd_dvd_right z N
theorem fn_gz (z : Int) : fn_ N z * gz N z = z := Int.ediv_mul_cancel (gz_l N z)
theorem fd_gz (z : Int) : fd_ N z * gz N z = N := Int.ediv_mul_cancel (gz_r N z)
theorem fd_pos (z : Int) : 0 < fd_ N z := by
  have h1 := fd_gz N z
  have h2 := gz_pos N z
  by_cases h : 0 < fd_ N z
  · exact h
  · have : fd_ N z * gz N z ≤ 0 := Int.mul_nonpos_of_nonpos_of_nonneg (by omega) (by omega)
    have := hN.pos
    omega
theorem fd_le (z : Int) : fd_ N z ≤ N := Int.le_of_dvd hN.pos ⟨gz N z, (fd_gz N z).symm⟩
theorem fr_eq (z : Int) : fn_ N z * N = z * fd_ N z := by
  have h1 := fn_gz N z
  have h2 := fd_gz N z
  calc fn_ N z * N = fn_ N z * (fd_ N z * gz N z) := by rw [h2]
    _ = fn_ N z * gz N z * fd_ N z := by rw [Int.mul_assoc, Int.mul_comm (fd_ N z)]
    _ = z * fd_ N z := by rw [h1]
variable {N}
theorem fr_inj {z w : Int} (h1 : fn_ N z = fn_ N w) (h2 : fd_ N z = fd_ N w) : z = w := by
  have e1 := fr_eq N z
  have e2 := fr_eq N w
  rw [h1, h2, e2] at e1
  exact (Int.eq_of_mul_eq_mul_right (by have := fd_pos N w; omega) e1).symm
theorem frD_inj {z w : Int} (h : fr N z = fr N w) : z = w := by
  unfold fr at h
  simp only [D.tup.injEq, List.cons.injEq, D.int.injEq, and_true] at h
  exact fr_inj h.1 h.2
/-- the fraction n / d in lowest terms -/
theorem fr_of {n d z : Int} (hd : 0 < d) (h : n * N = z * d) : n / (Int.gcd n d : Int) = fn_ N z ∧ d / (Int.gcd n d : Int) = fd_ N z := by
  have hc : 0 < (Int.gcd n d : Int) := by
    have := Int.gcd_pos_of_ne_zero_right n (show d ≠ 0 by omega)
    omega
  have hNp := hN.pos
  have g1 : Int.gcd (n * N) (d * N) = Int.gcd n d * N.natAbs := Int.gcd_mul_right _ _ _
  have g2 : Int.gcd (z * d) (N * d) = Int.gcd z N * d.natAbs := Int.gcd_mul_right _ _ _
  rw [h, Int.mul_comm d N, g2] at g1
  have g3 : gz N z * d = (Int.gcd n d : Int) * N := by
    unfold gz
    have : (d.natAbs : Int) = d := by omega
    have hn : (N.natAbs : Int) = N := by omega
    calc (Int.gcd z N : Int) * d = ((Int.gcd z N * d.natAbs : Nat) : Int) := by rw [Int.natCast_mul, this]
      _ = ((Int.gcd n d * N.natAbs : Nat) : Int) := by rw [g1]
      _ = _ := by rw [Int.natCast_mul, hn]
  generalize hcc : (Int.gcd n d : Int) = c at *
  obtain ⟨n', hn⟩ : c ∣ n := by rw [← hcc]; exact Int.gcd_dvd_left n d
  obtain ⟨d', hd'⟩ : c ∣ d := by rw [← hcc]; exact Int.gcd_dvd_right n d
  have e1 : n / c = n' := by rw [hn]; exact Int.mul_ediv_cancel_left n' (by omega)
  have e2 : d / c = d' := by rw [hd']; exact Int.mul_ediv_cancel_left d' (by omega)
  rw [e1, e2]
  have hg := gz_pos N z
  have k2 : d' = fd_ N z := by
    have : gz N z * c * d' = gz N z * c * fd_ N z := by
      calc gz N z * c * d' = gz N z * d := by rw [hd', Int.mul_assoc]
        _ = c * N := g3
        _ = c * (fd_ N z * gz N z) := by rw [fd_gz]
        _ = gz N z * c * fd_ N z := by rw [Int.mul_comm (fd_ N z), ← Int.mul_assoc, Int.mul_comm c]
    exact Int.eq_of_mul_eq_mul_left (Int.mul_ne_zero (by omega) (by omega)) this
  refine ⟨?_, k2⟩
  have hp := fd_pos N z
  have : c * N * n' = c * N * fn_ N z := by
    calc c * N * n' = n * N := by rw [hn, Int.mul_assoc, Int.mul_comm N, ← Int.mul_assoc]
      _ = z * d := h
      _ = fn_ N z * gz N z * d := by rw [fn_gz]
      _ = fn_ N z * (c * N) := by rw [Int.mul_assoc, g3]
      _ = c * N * fn_ N z := Int.mul_comm _ _
  exact Int.eq_of_mul_eq_mul_left (Int.mul_ne_zero (by omega) (by omega)) this
theorem fr_whole (n : Int) : fr N (n * N) = .tup [.int n, .int 1] := by
  have hp := hN.pos
  obtain ⟨h1, h2⟩ := fr_of (N := N) (n := n) (d := 1) (z := n * N) (by decide) (by omega)
  rw [Int.gcd_one_right] at h1 h2
  unfold fr
  rw [← h1, ← h2]
  simp
theorem fr_0 : fr N 0 = .tup [.int 0, .int 1] := by
  have := fr_whole (N := N) 0
  rwa [Int.zero_mul] at this
end
end Pv
end

section
set_option maxRecDepth 100000
set_option Elab.async false
set_option linter.all false
/-! W1: walks: fractions, the stream. -/
namespace K89
open Pv
/-- a pair of ints that is z / N -/
structure Fc (N : Int) (p : D) (z : Int) : Prop where
  h : ∃ a b, p = .tup [.int a, .int b] ∧ 0 < b ∧ b ≤ N ∧ a * N = z * b
theorem Fc.fr (N : Int) [Nice N] (z : Int) : Fc N (fr N z) z := ⟨fn_ N z, fd_ N z, rfl, fd_pos N z, fd_le N z, fr_eq N z⟩
theorem gcd_bound {n d : Int} (hd : d ≠ 0) (hs : d.natAbs < 2 ^ 60) : divOk (Int.gcd n d) = true := by
  have h1 := Int.gcd_pos_of_ne_zero_right n hd
  have h2 : Int.gcd n d ≤ d.natAbs := Nat.le_of_dvd (by omega) (Int.natAbs_dvd_natAbs.mpr (Int.gcd_dvd_right n d))
  exact div_s (by omega) (by omega)
section
variable {N : Int} [hN : Nice N]
theorem w_fraction (k : Nat) (n d z : Int) (hd : d ≠ 0) (hs : d.natAbs < 2 ^ 60) (hz : n * N = z * d) : M.call prog (k+1) 0 [.val (.int n), .val (.int d)] = some (.ok (.val (fr N z)) []) := by
  have h1 : (d == (0:Int)) = false := by simp [hd]
  by_cases hp : 0 < d
  · have h2 : (decide (d < (0:Int))) = false := by simp; omega
    have hg := gcd_bound (n := n) hd hs
    obtain ⟨e1, e2⟩ := fr_of hp hz
    have hc : 0 < (Int.gcd n d : Int) := by have := Int.gcd_pos_of_ne_zero_right n hd; omega
    simp -dsimp only [g0, f_fraction, M_run, varH_val, varH_ol, varH_od, varH_oi, M_cx_rf, M_cx_sub, M_cx_call, seqG_next, seqG_ret, seqG_brk, seqG_cnt, nox_ok, wipe, forA_some, forK_next, forK_cnt, forK_brk, forK_ret, forK_exc, whlK_next, whlK_cnt, whlK_brk, whlK_ret, whlK_exc, whlB_t, whlB_f, lcA_some, lcB_t, lcB_f, M_ev_var, M_ev_pth, M_ev_cst, M_ev_glb, M_ev_bin, M_ev_neg, M_ev_cmp, M_ev_chn, M_ev_and, M_ev_or, M_ev_not, M_ev_iff, M_ev_tup, M_ev_lst, M_ev_ix, M_ev_slc, M_ev_rev, M_ev_call, M_ev_mth, M_ev_new, M_ev_att, M_ev_bi, M_ev_isi, M_ev_isx, M_ev_dget, M_ev_dct0, M_ev_pop, M_ev_popi, M_ev_lc, M_ev_dc, M_ev_stk, M_tst_e, M_tst_and, M_tst_or, M_tst_not, M_tstO_no, M_tstO_yes, M_evs_nil, M_evs_cons, M_evD_nil, M_evD_cons, M_evO_no, M_evO_yes, M_evI_e, M_evI_r1, M_evI_r2, M_ex_asg, M_ex_par, M_ex_mov, M_ex_aug, M_ex_sIx, M_ex_sAt, M_ex_augIx, M_ex_augAt, M_ex_exp, M_ex_app, M_ex_ext, M_ex_ins, M_ex_iff, M_ex_whl, M_ex_for_, M_ex_forO, M_ex_ret, M_ex_retM, M_ex_retN, M_ex_brk, M_ex_cnt, M_ex_pass, M_ex_rais, M_ex_stk, M_ex_tr, M_exs_nil, M_exs_cons, M_exh_nil, M_exh_cons, List.length_cons, List.length_nil, Nat.zero_add, Nat.reduceAdd, Nat.reduceSub, Nat.reduceLeDiff, Nat.reduceLT, if_pos, List.map_cons, List.map_nil, rb_ok, rb_none, ob_some, ob_none, sGet, List.cons_append, List.nil_append, List.replicate, cmpH, peek, look, peekV, vals_map, fzL_map, vals, cmpD, fits, fit, fitL, eqv, lf, truV, blOf, Bool.false_eq_true, if_false, if_true, List.set, asgH, esc, put, setP, getP, fz, fzL, asgH.lf', asgD, asgNs, biH, peeks, biD, lenV, newH, binH, binD, ixH, subH, toSV, toSVs, setSVs, okS, setH, setV, isOl, appH, fin_next, fin_ret, outsOf, callH, handArgs, handed, noTwice, backArgs, retH_val, retH_ol, retH_od, retH_oi, List.headD_cons, List.tail_cons, List.headD_nil, List.tail_nil, seqOf, decide_true, decide_false, Bool.and_self, Bool.true_and, Bool.and_true, Bool.false_and, Bool.and_false, Bool.not_true, Bool.not_false, Bool.or_true, Bool.or_false, Bool.true_or, Bool.false_or, List.isEmpty_cons, List.isEmpty_nil, reduceCtorEq, List.contains_nil, List.contains_cons, Nat.reduceBEq, sizeOk, atI_c0, atI_c1, atI_c2, atI_c3, atI_c4, slcD, cut_1, intOf, ix_30, ix_31, ix_32, isTy, List.any_cons, List.any_nil, isNon, isNonV, List.length_map, augD, List.getElem?_cons_zero, List.getElem?_cons_succ, Int.reduceLT, ix_10, ix_1m, ix_20, ix_21, ix_2m, ix_3m, ix_40, ix_41, ix_42, ix_43, ix_4m, ix_50, ix_51, ix_52, ix_53, ix_54, ix_5m, ix_60, ix_61, ix_62, ix_63, ix_64, ix_65, ix_6m, ix_70, ix_71, ix_72, ix_73, ix_74, ix_75, ix_76, ix_7m, ix_80, ix_81, ix_82, ix_83, ix_84, ix_85, ix_86, ix_87, ix_8m, rf0, rf1, rf2, rf3, rf4, rf5, rf6, rf7, rf8, rf9, rf10, rf11, rf12, rf13, rf14, rf15, rf16, rf17, rf18, rf19, rf20, rf21, rf22, rf23, rf24, rf25, rf26, rf27, rf28, rf29, rf30, rf31, rf32, rf33, rf34, rf35, rf36, rf37, rf38, h1, h2, hg, fr, ← e1, ← e2, fdiv_pos hc]
  · have h2 : (decide (d < (0:Int))) = true := by simp; omega
    have hd' : -d ≠ 0 := by omega
    have hg := gcd_bound (n := -n) hd' (by omega)
    obtain ⟨e1, e2⟩ := fr_of (n := -n) (d := -d) (z := z) (by omega) (by rw [Int.neg_mul, hz, Int.mul_neg])
    have hc : 0 < (Int.gcd (-n) (-d) : Int) := by have := Int.gcd_pos_of_ne_zero_right (-n) hd'; omega
    simp -dsimp only [g0, f_fraction, M_run, varH_val, varH_ol, varH_od, varH_oi, M_cx_rf, M_cx_sub, M_cx_call, seqG_next, seqG_ret, seqG_brk, seqG_cnt, nox_ok, wipe, forA_some, forK_next, forK_cnt, forK_brk, forK_ret, forK_exc, whlK_next, whlK_cnt, whlK_brk, whlK_ret, whlK_exc, whlB_t, whlB_f, lcA_some, lcB_t, lcB_f, M_ev_var, M_ev_pth, M_ev_cst, M_ev_glb, M_ev_bin, M_ev_neg, M_ev_cmp, M_ev_chn, M_ev_and, M_ev_or, M_ev_not, M_ev_iff, M_ev_tup, M_ev_lst, M_ev_ix, M_ev_slc, M_ev_rev, M_ev_call, M_ev_mth, M_ev_new, M_ev_att, M_ev_bi, M_ev_isi, M_ev_isx, M_ev_dget, M_ev_dct0, M_ev_pop, M_ev_popi, M_ev_lc, M_ev_dc, M_ev_stk, M_tst_e, M_tst_and, M_tst_or, M_tst_not, M_tstO_no, M_tstO_yes, M_evs_nil, M_evs_cons, M_evD_nil, M_evD_cons, M_evO_no, M_evO_yes, M_evI_e, M_evI_r1, M_evI_r2, M_ex_asg, M_ex_par, M_ex_mov, M_ex_aug, M_ex_sIx, M_ex_sAt, M_ex_augIx, M_ex_augAt, M_ex_exp, M_ex_app, M_ex_ext, M_ex_ins, M_ex_iff, M_ex_whl, M_ex_for_, M_ex_forO, M_ex_ret, M_ex_retM, M_ex_retN, M_ex_brk, M_ex_cnt, M_ex_pass, M_ex_rais, M_ex_stk, M_ex_tr, M_exs_nil, M_exs_cons, M_exh_nil, M_exh_cons, List.length_cons, List.length_nil, Nat.zero_add, Nat.reduceAdd, Nat.reduceSub, Nat.reduceLeDiff, Nat.reduceLT, if_pos, List.map_cons, List.map_nil, rb_ok, rb_none, ob_some, ob_none, sGet, List.cons_append, List.nil_append, List.replicate, cmpH, peek, look, peekV, vals_map, fzL_map, vals, cmpD, fits, fit, fitL, eqv, lf, truV, blOf, Bool.false_eq_true, if_false, if_true, List.set, asgH, esc, put, setP, getP, fz, fzL, asgH.lf', asgD, asgNs, biH, peeks, biD, lenV, newH, binH, binD, ixH, subH, toSV, toSVs, setSVs, okS, setH, setV, isOl, appH, fin_next, fin_ret, outsOf, callH, handArgs, handed, noTwice, backArgs, retH_val, retH_ol, retH_od, retH_oi, List.headD_cons, List.tail_cons, List.headD_nil, List.tail_nil, seqOf, decide_true, decide_false, Bool.and_self, Bool.true_and, Bool.and_true, Bool.false_and, Bool.and_false, Bool.not_true, Bool.not_false, Bool.or_true, Bool.or_false, Bool.true_or, Bool.false_or, List.isEmpty_cons, List.isEmpty_nil, reduceCtorEq, List.contains_nil, List.contains_cons, Nat.reduceBEq, sizeOk, atI_c0, atI_c1, atI_c2, atI_c3, atI_c4, slcD, cut_1, intOf, ix_30, ix_31, ix_32, isTy, List.any_cons, List.any_nil, isNon, isNonV, List.length_map, augD, List.getElem?_cons_zero, List.getElem?_cons_succ, Int.reduceLT, ix_10, ix_1m, ix_20, ix_21, ix_2m, ix_3m, ix_40, ix_41, ix_42, ix_43, ix_4m, ix_50, ix_51, ix_52, ix_53, ix_54, ix_5m, ix_60, ix_61, ix_62, ix_63, ix_64, ix_65, ix_6m, ix_70, ix_71, ix_72, ix_73, ix_74, ix_75, ix_76, ix_7m, ix_80, ix_81, ix_82, ix_83, ix_84, ix_85, ix_86, ix_87, ix_8m, rf0, rf1, rf2, rf3, rf4, rf5, rf6, rf7, rf8, rf9, rf10, rf11, rf12, rf13, rf14, rf15, rf16, rf17, rf18, rf19, rf20, rf21, rf22, rf23, rf24, rf25, rf26, rf27, rf28, rf29, rf30, rf31, rf32, rf33, rf34, rf35, rf36, rf37, rf38, h1, h2, hg, fr, ← e1, ← e2, fdiv_pos hc]
theorem mul_small {a b : Int} (h : 0 < b) (h2 : b ≤ N) : mulOk a b = true := mul_r (by have := hN.lt; omega)
theorem small_mul {b d : Int} (h1 : 0 < b) (h2 : b ≤ N) (h3 : 0 < d) (h4 : d ≤ N) : b * d ≠ 0 ∧ (b * d).natAbs < 2 ^ 60 := by
  have k1 : 0 < b * d := Int.mul_pos h1 h3
  have k2 : b * d ≤ N * N := Int.mul_le_mul h2 h4 (by omega) (by have := hN.pos; omega)
  have k3 : N * N ≤ 1073741823 * 1073741823 := by have := hN.pos; have := hN.lt; exact Int.mul_le_mul (by omega) (by omega) (by omega) (by omega)
  omega
theorem plus_z {a b c d z w : Int} (h1 : a * N = z * b) (h2 : c * N = w * d) : (a * d + c * b) * N = (z + w) * (b * d) := by
  calc (a * d + c * b) * N = (a * N) * d + (c * N) * b := by grind
    _ = (z + w) * (b * d) := by rw [h1, h2]; grind
theorem minus_z {a b c d z w : Int} (h1 : a * N = z * b) (h2 : c * N = w * d) : (a * d - c * b) * N = (z - w) * (b * d) := by
  calc (a * d - c * b) * N = (a * N) * d - (c * N) * b := by grind
    _ = (z - w) * (b * d) := by rw [h1, h2]; grind
theorem w_plus (k : Nat) {p q : D} {z w : Int} (hp : Fc N p z) (hq : Fc N q w) : M.call prog (k+2) 1 [.val p, .val q] = some (.ok (.val (fr N (z + w))) []) := by
  obtain ⟨a, b, rfl, b1, b2, hz⟩ := hp
  obtain ⟨c, d, rfl, d1, d2, hw⟩ := hq
  obtain ⟨m1, m2⟩ := small_mul b1 b2 d1 d2
  have h := w_fraction k (a * d + c * b) (b * d) (z + w) m1 m2 (plus_z hz hw)
  simp -dsimp only [g1, f_plus, M_run, varH_val, varH_ol, varH_od, varH_oi, M_cx_rf, M_cx_sub, M_cx_call, seqG_next, seqG_ret, seqG_brk, seqG_cnt, nox_ok, wipe, forA_some, forK_next, forK_cnt, forK_brk, forK_ret, forK_exc, whlK_next, whlK_cnt, whlK_brk, whlK_ret, whlK_exc, whlB_t, whlB_f, lcA_some, lcB_t, lcB_f, M_ev_var, M_ev_pth, M_ev_cst, M_ev_glb, M_ev_bin, M_ev_neg, M_ev_cmp, M_ev_chn, M_ev_and, M_ev_or, M_ev_not, M_ev_iff, M_ev_tup, M_ev_lst, M_ev_ix, M_ev_slc, M_ev_rev, M_ev_call, M_ev_mth, M_ev_new, M_ev_att, M_ev_bi, M_ev_isi, M_ev_isx, M_ev_dget, M_ev_dct0, M_ev_pop, M_ev_popi, M_ev_lc, M_ev_dc, M_ev_stk, M_tst_e, M_tst_and, M_tst_or, M_tst_not, M_tstO_no, M_tstO_yes, M_evs_nil, M_evs_cons, M_evD_nil, M_evD_cons, M_evO_no, M_evO_yes, M_evI_e, M_evI_r1, M_evI_r2, M_ex_asg, M_ex_par, M_ex_mov, M_ex_aug, M_ex_sIx, M_ex_sAt, M_ex_augIx, M_ex_augAt, M_ex_exp, M_ex_app, M_ex_ext, M_ex_ins, M_ex_iff, M_ex_whl, M_ex_for_, M_ex_forO, M_ex_ret, M_ex_retM, M_ex_retN, M_ex_brk, M_ex_cnt, M_ex_pass, M_ex_rais, M_ex_stk, M_ex_tr, M_exs_nil, M_exs_cons, M_exh_nil, M_exh_cons, List.length_cons, List.length_nil, Nat.zero_add, Nat.reduceAdd, Nat.reduceSub, Nat.reduceLeDiff, Nat.reduceLT, if_pos, List.map_cons, List.map_nil, rb_ok, rb_none, ob_some, ob_none, sGet, List.cons_append, List.nil_append, List.replicate, cmpH, peek, look, peekV, vals_map, fzL_map, vals, cmpD, fits, fit, fitL, eqv, lf, truV, blOf, Bool.false_eq_true, if_false, if_true, List.set, asgH, esc, put, setP, getP, fz, fzL, asgH.lf', asgD, asgNs, biH, peeks, biD, lenV, newH, binH, binD, ixH, subH, toSV, toSVs, setSVs, okS, setH, setV, isOl, appH, fin_next, fin_ret, outsOf, callH, handArgs, handed, noTwice, backArgs, retH_val, retH_ol, retH_od, retH_oi, List.headD_cons, List.tail_cons, List.headD_nil, List.tail_nil, seqOf, decide_true, decide_false, Bool.and_self, Bool.true_and, Bool.and_true, Bool.false_and, Bool.and_false, Bool.not_true, Bool.not_false, Bool.or_true, Bool.or_false, Bool.true_or, Bool.false_or, List.isEmpty_cons, List.isEmpty_nil, reduceCtorEq, List.contains_nil, List.contains_cons, Nat.reduceBEq, sizeOk, atI_c0, atI_c1, atI_c2, atI_c3, atI_c4, slcD, cut_1, intOf, ix_30, ix_31, ix_32, isTy, List.any_cons, List.any_nil, isNon, isNonV, List.length_map, augD, List.getElem?_cons_zero, List.getElem?_cons_succ, Int.reduceLT, ix_10, ix_1m, ix_20, ix_21, ix_2m, ix_3m, ix_40, ix_41, ix_42, ix_43, ix_4m, ix_50, ix_51, ix_52, ix_53, ix_54, ix_5m, ix_60, ix_61, ix_62, ix_63, ix_64, ix_65, ix_6m, ix_70, ix_71, ix_72, ix_73, ix_74, ix_75, ix_76, ix_7m, ix_80, ix_81, ix_82, ix_83, ix_84, ix_85, ix_86, ix_87, ix_8m, rf0, rf1, rf2, rf3, rf4, rf5, rf6, rf7, rf8, rf9, rf10, rf11, rf12, rf13, rf14, rf15, rf16, rf17, rf18, rf19, rf20, rf21, rf22, rf23, rf24, rf25, rf26, rf27, rf28, rf29, rf30, rf31, rf32, rf33, rf34, rf35, rf36, rf37, rf38, rf0, mul_small d1 d2, mul_small b1 b2, h, fr]
theorem w_minus (k : Nat) {p q : D} {z w : Int} (hp : Fc N p z) (hq : Fc N q w) : M.call prog (k+2) 2 [.val p, .val q] = some (.ok (.val (fr N (z - w))) []) := by
  obtain ⟨a, b, rfl, b1, b2, hz⟩ := hp
  obtain ⟨c, d, rfl, d1, d2, hw⟩ := hq
  obtain ⟨m1, m2⟩ := small_mul b1 b2 d1 d2
  have h := w_fraction k (a * d - c * b) (b * d) (z - w) m1 m2 (minus_z hz hw)
  simp -dsimp only [g2, f_minus, M_run, varH_val, varH_ol, varH_od, varH_oi, M_cx_rf, M_cx_sub, M_cx_call, seqG_next, seqG_ret, seqG_brk, seqG_cnt, nox_ok, wipe, forA_some, forK_next, forK_cnt, forK_brk, forK_ret, forK_exc, whlK_next, whlK_cnt, whlK_brk, whlK_ret, whlK_exc, whlB_t, whlB_f, lcA_some, lcB_t, lcB_f, M_ev_var, M_ev_pth, M_ev_cst, M_ev_glb, M_ev_bin, M_ev_neg, M_ev_cmp, M_ev_chn, M_ev_and, M_ev_or, M_ev_not, M_ev_iff, M_ev_tup, M_ev_lst, M_ev_ix, M_ev_slc, M_ev_rev, M_ev_call, M_ev_mth, M_ev_new, M_ev_att, M_ev_bi, M_ev_isi, M_ev_isx, M_ev_dget, M_ev_dct0, M_ev_pop, M_ev_popi, M_ev_lc, M_ev_dc, M_ev_stk, M_tst_e, M_tst_and, M_tst_or, M_tst_not, M_tstO_no, M_tstO_yes, M_evs_nil, M_evs_cons, M_evD_nil, M_evD_cons, M_evO_no, M_evO_yes, M_evI_e, M_evI_r1, M_evI_r2, M_ex_asg, M_ex_par, M_ex_mov, M_ex_aug, M_ex_sIx, M_ex_sAt, M_ex_augIx, M_ex_augAt, M_ex_exp, M_ex_app, M_ex_ext, M_ex_ins, M_ex_iff, M_ex_whl, M_ex_for_, M_ex_forO, M_ex_ret, M_ex_retM, M_ex_retN, M_ex_brk, M_ex_cnt, M_ex_pass, M_ex_rais, M_ex_stk, M_ex_tr, M_exs_nil, M_exs_cons, M_exh_nil, M_exh_cons, List.length_cons, List.length_nil, Nat.zero_add, Nat.reduceAdd, Nat.reduceSub, Nat.reduceLeDiff, Nat.reduceLT, if_pos, List.map_cons, List.map_nil, rb_ok, rb_none, ob_some, ob_none, sGet, List.cons_append, List.nil_append, List.replicate, cmpH, peek, look, peekV, vals_map, fzL_map, vals, cmpD, fits, fit, fitL, eqv, lf, truV, blOf, Bool.false_eq_true, if_false, if_true, List.set, asgH, esc, put, setP, getP, fz, fzL, asgH.lf', asgD, asgNs, biH, peeks, biD, lenV, newH, binH, binD, ixH, subH, toSV, toSVs, setSVs, okS, setH, setV, isOl, appH, fin_next, fin_ret, outsOf, callH, handArgs, handed, noTwice, backArgs, retH_val, retH_ol, retH_od, retH_oi, List.headD_cons, List.tail_cons, List.headD_nil, List.tail_nil, seqOf, decide_true, decide_false, Bool.and_self, Bool.true_and, Bool.and_true, Bool.false_and, Bool.and_false, Bool.not_true, Bool.not_false, Bool.or_true, Bool.or_false, Bool.true_or, Bool.false_or, List.isEmpty_cons, List.isEmpty_nil, reduceCtorEq, List.contains_nil, List.contains_cons, Nat.reduceBEq, sizeOk, atI_c0, atI_c1, atI_c2, atI_c3, atI_c4, slcD, cut_1, intOf, ix_30, ix_31, ix_32, isTy, List.any_cons, List.any_nil, isNon, isNonV, List.length_map, augD, List.getElem?_cons_zero, List.getElem?_cons_succ, Int.reduceLT, ix_10, ix_1m, ix_20, ix_21, ix_2m, ix_3m, ix_40, ix_41, ix_42, ix_43, ix_4m, ix_50, ix_51, ix_52, ix_53, ix_54, ix_5m, ix_60, ix_61, ix_62, ix_63, ix_64, ix_65, ix_6m, ix_70, ix_71, ix_72, ix_73, ix_74, ix_75, ix_76, ix_7m, ix_80, ix_81, ix_82, ix_83, ix_84, ix_85, ix_86, ix_87, ix_8m, rf0, rf1, rf2, rf3, rf4, rf5, rf6, rf7, rf8, rf9, rf10, rf11, rf12, rf13, rf14, rf15, rf16, rf17, rf18, rf19, rf20, rf21, rf22, rf23, rf24, rf25, rf26, rf27, rf28, rf29, rf30, rf31, rf32, rf33, rf34, rf35, rf36, rf37, rf38, rf0, mul_small d1 d2, mul_small b1 b2, h, fr]
theorem cross_lt {A B z w P N : Int} (hN : 0 < N) (hP : 0 < P) (e1 : A * N = z * P) (e2 : B * N = w * P) : A < B ↔ z < w := by
  constructor
  · intro h
    have := Int.mul_lt_mul_of_pos_right h hN
    rw [e1, e2] at this
    exact Int.lt_of_mul_lt_mul_right this (by omega)
  · intro h
    have := Int.mul_lt_mul_of_pos_right h hP
    rw [← e1, ← e2] at this
    exact Int.lt_of_mul_lt_mul_right this (by omega)
theorem w_lesser (k : Nat) (z w : Int) : M.call prog (k+2) 4 [.val (fr N z), .val (fr N w)] = some (.ok (.val (fr N (if z ≤ w then z else w))) []) := by
  have z1 := fd_pos N z
  have z2 := fd_le N z
  have w1 := fd_pos N w
  have w2 := fd_le N w
  have e1 : fn_ N z * fd_ N w * N = z * (fd_ N z * fd_ N w) := by
    calc fn_ N z * fd_ N w * N = (fn_ N z * N) * fd_ N w := by grind
      _ = z * (fd_ N z * fd_ N w) := by rw [fr_eq]; grind
  have e2 : fn_ N w * fd_ N z * N = w * (fd_ N z * fd_ N w) := by
    calc fn_ N w * fd_ N z * N = (fn_ N w * N) * fd_ N z := by grind
      _ = w * (fd_ N z * fd_ N w) := by rw [fr_eq]; grind
  have hp : 0 < fd_ N z * fd_ N w := Int.mul_pos z1 w1
  have cross := cross_lt hN.pos hp e1 e2
  have cross2 := cross_lt hN.pos hp e2 e1
  have ord : ∀ r : Int, (if z < w then (-1 : Int) else if w < z then 1 else 0) = r → M.call prog (k+1) 3 [.val (fr N z), .val (fr N w)] = some (.ok (.val (.int r)) []) := by
    intro r hr
    by_cases h1 : z < w
    · have c1 : decide (fn_ N z * fd_ N w < fn_ N w * fd_ N z) = true := by simp [cross, h1]
      rw [if_pos h1] at hr
      subst hr
      simp -dsimp only [g3, f_order, M_run, varH_val, varH_ol, varH_od, varH_oi, M_cx_rf, M_cx_sub, M_cx_call, seqG_next, seqG_ret, seqG_brk, seqG_cnt, nox_ok, wipe, forA_some, forK_next, forK_cnt, forK_brk, forK_ret, forK_exc, whlK_next, whlK_cnt, whlK_brk, whlK_ret, whlK_exc, whlB_t, whlB_f, lcA_some, lcB_t, lcB_f, M_ev_var, M_ev_pth, M_ev_cst, M_ev_glb, M_ev_bin, M_ev_neg, M_ev_cmp, M_ev_chn, M_ev_and, M_ev_or, M_ev_not, M_ev_iff, M_ev_tup, M_ev_lst, M_ev_ix, M_ev_slc, M_ev_rev, M_ev_call, M_ev_mth, M_ev_new, M_ev_att, M_ev_bi, M_ev_isi, M_ev_isx, M_ev_dget, M_ev_dct0, M_ev_pop, M_ev_popi, M_ev_lc, M_ev_dc, M_ev_stk, M_tst_e, M_tst_and, M_tst_or, M_tst_not, M_tstO_no, M_tstO_yes, M_evs_nil, M_evs_cons, M_evD_nil, M_evD_cons, M_evO_no, M_evO_yes, M_evI_e, M_evI_r1, M_evI_r2, M_ex_asg, M_ex_par, M_ex_mov, M_ex_aug, M_ex_sIx, M_ex_sAt, M_ex_augIx, M_ex_augAt, M_ex_exp, M_ex_app, M_ex_ext, M_ex_ins, M_ex_iff, M_ex_whl, M_ex_for_, M_ex_forO, M_ex_ret, M_ex_retM, M_ex_retN, M_ex_brk, M_ex_cnt, M_ex_pass, M_ex_rais, M_ex_stk, M_ex_tr, M_exs_nil, M_exs_cons, M_exh_nil, M_exh_cons, List.length_cons, List.length_nil, Nat.zero_add, Nat.reduceAdd, Nat.reduceSub, Nat.reduceLeDiff, Nat.reduceLT, if_pos, List.map_cons, List.map_nil, rb_ok, rb_none, ob_some, ob_none, sGet, List.cons_append, List.nil_append, List.replicate, cmpH, peek, look, peekV, vals_map, fzL_map, vals, cmpD, fits, fit, fitL, eqv, lf, truV, blOf, Bool.false_eq_true, if_false, if_true, List.set, asgH, esc, put, setP, getP, fz, fzL, asgH.lf', asgD, asgNs, biH, peeks, biD, lenV, newH, binH, binD, ixH, subH, toSV, toSVs, setSVs, okS, setH, setV, isOl, appH, fin_next, fin_ret, outsOf, callH, handArgs, handed, noTwice, backArgs, retH_val, retH_ol, retH_od, retH_oi, List.headD_cons, List.tail_cons, List.headD_nil, List.tail_nil, seqOf, decide_true, decide_false, Bool.and_self, Bool.true_and, Bool.and_true, Bool.false_and, Bool.and_false, Bool.not_true, Bool.not_false, Bool.or_true, Bool.or_false, Bool.true_or, Bool.false_or, List.isEmpty_cons, List.isEmpty_nil, reduceCtorEq, List.contains_nil, List.contains_cons, Nat.reduceBEq, sizeOk, atI_c0, atI_c1, atI_c2, atI_c3, atI_c4, slcD, cut_1, intOf, ix_30, ix_31, ix_32, isTy, List.any_cons, List.any_nil, isNon, isNonV, List.length_map, augD, List.getElem?_cons_zero, List.getElem?_cons_succ, Int.reduceLT, ix_10, ix_1m, ix_20, ix_21, ix_2m, ix_3m, ix_40, ix_41, ix_42, ix_43, ix_4m, ix_50, ix_51, ix_52, ix_53, ix_54, ix_5m, ix_60, ix_61, ix_62, ix_63, ix_64, ix_65, ix_6m, ix_70, ix_71, ix_72, ix_73, ix_74, ix_75, ix_76, ix_7m, ix_80, ix_81, ix_82, ix_83, ix_84, ix_85, ix_86, ix_87, ix_8m, rf0, rf1, rf2, rf3, rf4, rf5, rf6, rf7, rf8, rf9, rf10, rf11, rf12, rf13, rf14, rf15, rf16, rf17, rf18, rf19, rf20, rf21, rf22, rf23, rf24, rf25, rf26, rf27, rf28, rf29, rf30, rf31, rf32, rf33, rf34, rf35, rf36, rf37, rf38, fr, mul_small z1 z2, mul_small w1 w2, c1]
    · have c1 : decide (fn_ N z * fd_ N w < fn_ N w * fd_ N z) = false := by simp only [cross, h1, decide_false]
      rw [if_neg h1] at hr
      by_cases h2 : w < z
      · have c2 : decide (fn_ N w * fd_ N z < fn_ N z * fd_ N w) = true := by simp [cross2, h2]
        rw [if_pos h2] at hr
        subst hr
        simp -dsimp only [g3, f_order, M_run, varH_val, varH_ol, varH_od, varH_oi, M_cx_rf, M_cx_sub, M_cx_call, seqG_next, seqG_ret, seqG_brk, seqG_cnt, nox_ok, wipe, forA_some, forK_next, forK_cnt, forK_brk, forK_ret, forK_exc, whlK_next, whlK_cnt, whlK_brk, whlK_ret, whlK_exc, whlB_t, whlB_f, lcA_some, lcB_t, lcB_f, M_ev_var, M_ev_pth, M_ev_cst, M_ev_glb, M_ev_bin, M_ev_neg, M_ev_cmp, M_ev_chn, M_ev_and, M_ev_or, M_ev_not, M_ev_iff, M_ev_tup, M_ev_lst, M_ev_ix, M_ev_slc, M_ev_rev, M_ev_call, M_ev_mth, M_ev_new, M_ev_att, M_ev_bi, M_ev_isi, M_ev_isx, M_ev_dget, M_ev_dct0, M_ev_pop, M_ev_popi, M_ev_lc, M_ev_dc, M_ev_stk, M_tst_e, M_tst_and, M_tst_or, M_tst_not, M_tstO_no, M_tstO_yes, M_evs_nil, M_evs_cons, M_evD_nil, M_evD_cons, M_evO_no, M_evO_yes, M_evI_e, M_evI_r1, M_evI_r2, M_ex_asg, M_ex_par, M_ex_mov, M_ex_aug, M_ex_sIx, M_ex_sAt, M_ex_augIx, M_ex_augAt, M_ex_exp, M_ex_app, M_ex_ext, M_ex_ins, M_ex_iff, M_ex_whl, M_ex_for_, M_ex_forO, M_ex_ret, M_ex_retM, M_ex_retN, M_ex_brk, M_ex_cnt, M_ex_pass, M_ex_rais, M_ex_stk, M_ex_tr, M_exs_nil, M_exs_cons, M_exh_nil, M_exh_cons, List.length_cons, List.length_nil, Nat.zero_add, Nat.reduceAdd, Nat.reduceSub, Nat.reduceLeDiff, Nat.reduceLT, if_pos, List.map_cons, List.map_nil, rb_ok, rb_none, ob_some, ob_none, sGet, List.cons_append, List.nil_append, List.replicate, cmpH, peek, look, peekV, vals_map, fzL_map, vals, cmpD, fits, fit, fitL, eqv, lf, truV, blOf, Bool.false_eq_true, if_false, if_true, List.set, asgH, esc, put, setP, getP, fz, fzL, asgH.lf', asgD, asgNs, biH, peeks, biD, lenV, newH, binH, binD, ixH, subH, toSV, toSVs, setSVs, okS, setH, setV, isOl, appH, fin_next, fin_ret, outsOf, callH, handArgs, handed, noTwice, backArgs, retH_val, retH_ol, retH_od, retH_oi, List.headD_cons, List.tail_cons, List.headD_nil, List.tail_nil, seqOf, decide_true, decide_false, Bool.and_self, Bool.true_and, Bool.and_true, Bool.false_and, Bool.and_false, Bool.not_true, Bool.not_false, Bool.or_true, Bool.or_false, Bool.true_or, Bool.false_or, List.isEmpty_cons, List.isEmpty_nil, reduceCtorEq, List.contains_nil, List.contains_cons, Nat.reduceBEq, sizeOk, atI_c0, atI_c1, atI_c2, atI_c3, atI_c4, slcD, cut_1, intOf, ix_30, ix_31, ix_32, isTy, List.any_cons, List.any_nil, isNon, isNonV, List.length_map, augD, List.getElem?_cons_zero, List.getElem?_cons_succ, Int.reduceLT, ix_10, ix_1m, ix_20, ix_21, ix_2m, ix_3m, ix_40, ix_41, ix_42, ix_43, ix_4m, ix_50, ix_51, ix_52, ix_53, ix_54, ix_5m, ix_60, ix_61, ix_62, ix_63, ix_64, ix_65, ix_6m, ix_70, ix_71, ix_72, ix_73, ix_74, ix_75, ix_76, ix_7m, ix_80, ix_81, ix_82, ix_83, ix_84, ix_85, ix_86, ix_87, ix_8m, rf0, rf1, rf2, rf3, rf4, rf5, rf6, rf7, rf8, rf9, rf10, rf11, rf12, rf13, rf14, rf15, rf16, rf17, rf18, rf19, rf20, rf21, rf22, rf23, rf24, rf25, rf26, rf27, rf28, rf29, rf30, rf31, rf32, rf33, rf34, rf35, rf36, rf37, rf38, fr, mul_small z1 z2, mul_small w1 w2, c1, c2]
      · have c2 : decide (fn_ N w * fd_ N z < fn_ N z * fd_ N w) = false := by simp only [cross2, h2, decide_false]
        rw [if_neg h2] at hr
        subst hr
        simp -dsimp only [g3, f_order, M_run, varH_val, varH_ol, varH_od, varH_oi, M_cx_rf, M_cx_sub, M_cx_call, seqG_next, seqG_ret, seqG_brk, seqG_cnt, nox_ok, wipe, forA_some, forK_next, forK_cnt, forK_brk, forK_ret, forK_exc, whlK_next, whlK_cnt, whlK_brk, whlK_ret, whlK_exc, whlB_t, whlB_f, lcA_some, lcB_t, lcB_f, M_ev_var, M_ev_pth, M_ev_cst, M_ev_glb, M_ev_bin, M_ev_neg, M_ev_cmp, M_ev_chn, M_ev_and, M_ev_or, M_ev_not, M_ev_iff, M_ev_tup, M_ev_lst, M_ev_ix, M_ev_slc, M_ev_rev, M_ev_call, M_ev_mth, M_ev_new, M_ev_att, M_ev_bi, M_ev_isi, M_ev_isx, M_ev_dget, M_ev_dct0, M_ev_pop, M_ev_popi, M_ev_lc, M_ev_dc, M_ev_stk, M_tst_e, M_tst_and, M_tst_or, M_tst_not, M_tstO_no, M_tstO_yes, M_evs_nil, M_evs_cons, M_evD_nil, M_evD_cons, M_evO_no, M_evO_yes, M_evI_e, M_evI_r1, M_evI_r2, M_ex_asg, M_ex_par, M_ex_mov, M_ex_aug, M_ex_sIx, M_ex_sAt, M_ex_augIx, M_ex_augAt, M_ex_exp, M_ex_app, M_ex_ext, M_ex_ins, M_ex_iff, M_ex_whl, M_ex_for_, M_ex_forO, M_ex_ret, M_ex_retM, M_ex_retN, M_ex_brk, M_ex_cnt, M_ex_pass, M_ex_rais, M_ex_stk, M_ex_tr, M_exs_nil, M_exs_cons, M_exh_nil, M_exh_cons, List.length_cons, List.length_nil, Nat.zero_add, Nat.reduceAdd, Nat.reduceSub, Nat.reduceLeDiff, Nat.reduceLT, if_pos, List.map_cons, List.map_nil, rb_ok, rb_none, ob_some, ob_none, sGet, List.cons_append, List.nil_append, List.replicate, cmpH, peek, look, peekV, vals_map, fzL_map, vals, cmpD, fits, fit, fitL, eqv, lf, truV, blOf, Bool.false_eq_true, if_false, if_true, List.set, asgH, esc, put, setP, getP, fz, fzL, asgH.lf', asgD, asgNs, biH, peeks, biD, lenV, newH, binH, binD, ixH, subH, toSV, toSVs, setSVs, okS, setH, setV, isOl, appH, fin_next, fin_ret, outsOf, callH, handArgs, handed, noTwice, backArgs, retH_val, retH_ol, retH_od, retH_oi, List.headD_cons, List.tail_cons, List.headD_nil, List.tail_nil, seqOf, decide_true, decide_false, Bool.and_self, Bool.true_and, Bool.and_true, Bool.false_and, Bool.and_false, Bool.not_true, Bool.not_false, Bool.or_true, Bool.or_false, Bool.true_or, Bool.false_or, List.isEmpty_cons, List.isEmpty_nil, reduceCtorEq, List.contains_nil, List.contains_cons, Nat.reduceBEq, sizeOk, atI_c0, atI_c1, atI_c2, atI_c3, atI_c4, slcD, cut_1, intOf, ix_30, ix_31, ix_32, isTy, List.any_cons, List.any_nil, isNon, isNonV, List.length_map, augD, List.getElem?_cons_zero, List.getElem?_cons_succ, Int.reduceLT, ix_10, ix_1m, ix_20, ix_21, ix_2m, ix_3m, ix_40, ix_41, ix_42, ix_43, ix_4m, ix_50, ix_51, ix_52, ix_53, ix_54, ix_5m, ix_60, ix_61, ix_62, ix_63, ix_64, ix_65, ix_6m, ix_70, ix_71, ix_72, ix_73, ix_74, ix_75, ix_76, ix_7m, ix_80, ix_81, ix_82, ix_83, ix_84, ix_85, ix_86, ix_87, ix_8m, rf0, rf1, rf2, rf3, rf4, rf5, rf6, rf7, rf8, rf9, rf10, rf11, rf12, rf13, rf14, rf15, rf16, rf17, rf18, rf19, rf20, rf21, rf22, rf23, rf24, rf25, rf26, rf27, rf28, rf29, rf30, rf31, rf32, rf33, rf34, rf35, rf36, rf37, rf38, fr, mul_small z1 z2, mul_small w1 w2, c1, c2]
  have h := ord _ rfl
  by_cases h1 : z ≤ w
  · have c : decide ((0 : Int) < (if z < w then (-1 : Int) else if w < z then 1 else 0)) = false := by
      by_cases h2 : z < w
      · simp [h2]
      · simp [h2, show ¬ w < z by omega]
    rw [if_pos h1]
    unfold fr at h ⊢
    simp -dsimp only [g4, f_lesser, M_run, varH_val, varH_ol, varH_od, varH_oi, M_cx_rf, M_cx_sub, M_cx_call, seqG_next, seqG_ret, seqG_brk, seqG_cnt, nox_ok, wipe, forA_some, forK_next, forK_cnt, forK_brk, forK_ret, forK_exc, whlK_next, whlK_cnt, whlK_brk, whlK_ret, whlK_exc, whlB_t, whlB_f, lcA_some, lcB_t, lcB_f, M_ev_var, M_ev_pth, M_ev_cst, M_ev_glb, M_ev_bin, M_ev_neg, M_ev_cmp, M_ev_chn, M_ev_and, M_ev_or, M_ev_not, M_ev_iff, M_ev_tup, M_ev_lst, M_ev_ix, M_ev_slc, M_ev_rev, M_ev_call, M_ev_mth, M_ev_new, M_ev_att, M_ev_bi, M_ev_isi, M_ev_isx, M_ev_dget, M_ev_dct0, M_ev_pop, M_ev_popi, M_ev_lc, M_ev_dc, M_ev_stk, M_tst_e, M_tst_and, M_tst_or, M_tst_not, M_tstO_no, M_tstO_yes, M_evs_nil, M_evs_cons, M_evD_nil, M_evD_cons, M_evO_no, M_evO_yes, M_evI_e, M_evI_r1, M_evI_r2, M_ex_asg, M_ex_par, M_ex_mov, M_ex_aug, M_ex_sIx, M_ex_sAt, M_ex_augIx, M_ex_augAt, M_ex_exp, M_ex_app, M_ex_ext, M_ex_ins, M_ex_iff, M_ex_whl, M_ex_for_, M_ex_forO, M_ex_ret, M_ex_retM, M_ex_retN, M_ex_brk, M_ex_cnt, M_ex_pass, M_ex_rais, M_ex_stk, M_ex_tr, M_exs_nil, M_exs_cons, M_exh_nil, M_exh_cons, List.length_cons, List.length_nil, Nat.zero_add, Nat.reduceAdd, Nat.reduceSub, Nat.reduceLeDiff, Nat.reduceLT, if_pos, List.map_cons, List.map_nil, rb_ok, rb_none, ob_some, ob_none, sGet, List.cons_append, List.nil_append, List.replicate, cmpH, peek, look, peekV, vals_map, fzL_map, vals, cmpD, fits, fit, fitL, eqv, lf, truV, blOf, Bool.false_eq_true, if_false, if_true, List.set, asgH, esc, put, setP, getP, fz, fzL, asgH.lf', asgD, asgNs, biH, peeks, biD, lenV, newH, binH, binD, ixH, subH, toSV, toSVs, setSVs, okS, setH, setV, isOl, appH, fin_next, fin_ret, outsOf, callH, handArgs, handed, noTwice, backArgs, retH_val, retH_ol, retH_od, retH_oi, List.headD_cons, List.tail_cons, List.headD_nil, List.tail_nil, seqOf, decide_true, decide_false, Bool.and_self, Bool.true_and, Bool.and_true, Bool.false_and, Bool.and_false, Bool.not_true, Bool.not_false, Bool.or_true, Bool.or_false, Bool.true_or, Bool.false_or, List.isEmpty_cons, List.isEmpty_nil, reduceCtorEq, List.contains_nil, List.contains_cons, Nat.reduceBEq, sizeOk, atI_c0, atI_c1, atI_c2, atI_c3, atI_c4, slcD, cut_1, intOf, ix_30, ix_31, ix_32, isTy, List.any_cons, List.any_nil, isNon, isNonV, List.length_map, augD, List.getElem?_cons_zero, List.getElem?_cons_succ, Int.reduceLT, ix_10, ix_1m, ix_20, ix_21, ix_2m, ix_3m, ix_40, ix_41, ix_42, ix_43, ix_4m, ix_50, ix_51, ix_52, ix_53, ix_54, ix_5m, ix_60, ix_61, ix_62, ix_63, ix_64, ix_65, ix_6m, ix_70, ix_71, ix_72, ix_73, ix_74, ix_75, ix_76, ix_7m, ix_80, ix_81, ix_82, ix_83, ix_84, ix_85, ix_86, ix_87, ix_8m, rf0, rf1, rf2, rf3, rf4, rf5, rf6, rf7, rf8, rf9, rf10, rf11, rf12, rf13, rf14, rf15, rf16, rf17, rf18, rf19, rf20, rf21, rf22, rf23, rf24, rf25, rf26, rf27, rf28, rf29, rf30, rf31, rf32, rf33, rf34, rf35, rf36, rf37, rf38, rf3, h, c]
  · have c : decide ((0 : Int) < (if z < w then (-1 : Int) else if w < z then 1 else 0)) = true := by
      simp [show ¬ z < w by omega, show w < z by omega]
    rw [if_neg h1]
    unfold fr at h ⊢
    simp -dsimp only [g4, f_lesser, M_run, varH_val, varH_ol, varH_od, varH_oi, M_cx_rf, M_cx_sub, M_cx_call, seqG_next, seqG_ret, seqG_brk, seqG_cnt, nox_ok, wipe, forA_some, forK_next, forK_cnt, forK_brk, forK_ret, forK_exc, whlK_next, whlK_cnt, whlK_brk, whlK_ret, whlK_exc, whlB_t, whlB_f, lcA_some, lcB_t, lcB_f, M_ev_var, M_ev_pth, M_ev_cst, M_ev_glb, M_ev_bin, M_ev_neg, M_ev_cmp, M_ev_chn, M_ev_and, M_ev_or, M_ev_not, M_ev_iff, M_ev_tup, M_ev_lst, M_ev_ix, M_ev_slc, M_ev_rev, M_ev_call, M_ev_mth, M_ev_new, M_ev_att, M_ev_bi, M_ev_isi, M_ev_isx, M_ev_dget, M_ev_dct0, M_ev_pop, M_ev_popi, M_ev_lc, M_ev_dc, M_ev_stk, M_tst_e, M_tst_and, M_tst_or, M_tst_not, M_tstO_no, M_tstO_yes, M_evs_nil, M_evs_cons, M_evD_nil, M_evD_cons, M_evO_no, M_evO_yes, M_evI_e, M_evI_r1, M_evI_r2, M_ex_asg, M_ex_par, M_ex_mov, M_ex_aug, M_ex_sIx, M_ex_sAt, M_ex_augIx, M_ex_augAt, M_ex_exp, M_ex_app, M_ex_ext, M_ex_ins, M_ex_iff, M_ex_whl, M_ex_for_, M_ex_forO, M_ex_ret, M_ex_retM, M_ex_retN, M_ex_brk, M_ex_cnt, M_ex_pass, M_ex_rais, M_ex_stk, M_ex_tr, M_exs_nil, M_exs_cons, M_exh_nil, M_exh_cons, List.length_cons, List.length_nil, Nat.zero_add, Nat.reduceAdd, Nat.reduceSub, Nat.reduceLeDiff, Nat.reduceLT, if_pos, List.map_cons, List.map_nil, rb_ok, rb_none, ob_some, ob_none, sGet, List.cons_append, List.nil_append, List.replicate, cmpH, peek, look, peekV, vals_map, fzL_map, vals, cmpD, fits, fit, fitL, eqv, lf, truV, blOf, Bool.false_eq_true, if_false, if_true, List.set, asgH, esc, put, setP, getP, fz, fzL, asgH.lf', asgD, asgNs, biH, peeks, biD, lenV, newH, binH, binD, ixH, subH, toSV, toSVs, setSVs, okS, setH, setV, isOl, appH, fin_next, fin_ret, outsOf, callH, handArgs, handed, noTwice, backArgs, retH_val, retH_ol, retH_od, retH_oi, List.headD_cons, List.tail_cons, List.headD_nil, List.tail_nil, seqOf, decide_true, decide_false, Bool.and_self, Bool.true_and, Bool.and_true, Bool.false_and, Bool.and_false, Bool.not_true, Bool.not_false, Bool.or_true, Bool.or_false, Bool.true_or, Bool.false_or, List.isEmpty_cons, List.isEmpty_nil, reduceCtorEq, List.contains_nil, List.contains_cons, Nat.reduceBEq, sizeOk, atI_c0, atI_c1, atI_c2, atI_c3, atI_c4, slcD, cut_1, intOf, ix_30, ix_31, ix_32, isTy, List.any_cons, List.any_nil, isNon, isNonV, List.length_map, augD, List.getElem?_cons_zero, List.getElem?_cons_succ, Int.reduceLT, ix_10, ix_1m, ix_20, ix_21, ix_2m, ix_3m, ix_40, ix_41, ix_42, ix_43, ix_4m, ix_50, ix_51, ix_52, ix_53, ix_54, ix_5m, ix_60, ix_61, ix_62, ix_63, ix_64, ix_65, ix_6m, ix_70, ix_71, ix_72, ix_73, ix_74, ix_75, ix_76, ix_7m, ix_80, ix_81, ix_82, ix_83, ix_84, ix_85, ix_86, ix_87, ix_8m, rf0, rf1, rf2, rf3, rf4, rf5, rf6, rf7, rf8, rf9, rf10, rf11, rf12, rf13, rf14, rf15, rf16, rf17, rf18, rf19, rf20, rf21, rf22, rf23, rf24, rf25, rf26, rf27, rf28, rf29, rf30, rf31, rf32, rf33, rf34, rf35, rf36, rf37, rf38, rf3, h, c]
theorem w_whole (k : Nat) (n : Int) : M.call prog (k+1) 5 [.val (.int n)] = some (.ok (.val (.tup [.int n, .int 1])) []) := by
  simp -dsimp only [g5, f_whole, M_run, varH_val, varH_ol, varH_od, varH_oi, M_cx_rf, M_cx_sub, M_cx_call, seqG_next, seqG_ret, seqG_brk, seqG_cnt, nox_ok, wipe, forA_some, forK_next, forK_cnt, forK_brk, forK_ret, forK_exc, whlK_next, whlK_cnt, whlK_brk, whlK_ret, whlK_exc, whlB_t, whlB_f, lcA_some, lcB_t, lcB_f, M_ev_var, M_ev_pth, M_ev_cst, M_ev_glb, M_ev_bin, M_ev_neg, M_ev_cmp, M_ev_chn, M_ev_and, M_ev_or, M_ev_not, M_ev_iff, M_ev_tup, M_ev_lst, M_ev_ix, M_ev_slc, M_ev_rev, M_ev_call, M_ev_mth, M_ev_new, M_ev_att, M_ev_bi, M_ev_isi, M_ev_isx, M_ev_dget, M_ev_dct0, M_ev_pop, M_ev_popi, M_ev_lc, M_ev_dc, M_ev_stk, M_tst_e, M_tst_and, M_tst_or, M_tst_not, M_tstO_no, M_tstO_yes, M_evs_nil, M_evs_cons, M_evD_nil, M_evD_cons, M_evO_no, M_evO_yes, M_evI_e, M_evI_r1, M_evI_r2, M_ex_asg, M_ex_par, M_ex_mov, M_ex_aug, M_ex_sIx, M_ex_sAt, M_ex_augIx, M_ex_augAt, M_ex_exp, M_ex_app, M_ex_ext, M_ex_ins, M_ex_iff, M_ex_whl, M_ex_for_, M_ex_forO, M_ex_ret, M_ex_retM, M_ex_retN, M_ex_brk, M_ex_cnt, M_ex_pass, M_ex_rais, M_ex_stk, M_ex_tr, M_exs_nil, M_exs_cons, M_exh_nil, M_exh_cons, List.length_cons, List.length_nil, Nat.zero_add, Nat.reduceAdd, Nat.reduceSub, Nat.reduceLeDiff, Nat.reduceLT, if_pos, List.map_cons, List.map_nil, rb_ok, rb_none, ob_some, ob_none, sGet, List.cons_append, List.nil_append, List.replicate, cmpH, peek, look, peekV, vals_map, fzL_map, vals, cmpD, fits, fit, fitL, eqv, lf, truV, blOf, Bool.false_eq_true, if_false, if_true, List.set, asgH, esc, put, setP, getP, fz, fzL, asgH.lf', asgD, asgNs, biH, peeks, biD, lenV, newH, binH, binD, ixH, subH, toSV, toSVs, setSVs, okS, setH, setV, isOl, appH, fin_next, fin_ret, outsOf, callH, handArgs, handed, noTwice, backArgs, retH_val, retH_ol, retH_od, retH_oi, List.headD_cons, List.tail_cons, List.headD_nil, List.tail_nil, seqOf, decide_true, decide_false, Bool.and_self, Bool.true_and, Bool.and_true, Bool.false_and, Bool.and_false, Bool.not_true, Bool.not_false, Bool.or_true, Bool.or_false, Bool.true_or, Bool.false_or, List.isEmpty_cons, List.isEmpty_nil, reduceCtorEq, List.contains_nil, List.contains_cons, Nat.reduceBEq, sizeOk, atI_c0, atI_c1, atI_c2, atI_c3, atI_c4, slcD, cut_1, intOf, ix_30, ix_31, ix_32, isTy, List.any_cons, List.any_nil, isNon, isNonV, List.length_map, augD, List.getElem?_cons_zero, List.getElem?_cons_succ, Int.reduceLT, ix_10, ix_1m, ix_20, ix_21, ix_2m, ix_3m, ix_40, ix_41, ix_42, ix_43, ix_4m, ix_50, ix_51, ix_52, ix_53, ix_54, ix_5m, ix_60, ix_61, ix_62, ix_63, ix_64, ix_65, ix_6m, ix_70, ix_71, ix_72, ix_73, ix_74, ix_75, ix_76, ix_7m, ix_80, ix_81, ix_82, ix_83, ix_84, ix_85, ix_86, ix_87, ix_8m, rf0, rf1, rf2, rf3, rf4, rf5, rf6, rf7, rf8, rf9, rf10, rf11, rf12, rf13, rf14, rf15, rf16, rf17, rf18, rf19, rf20, rf21, rf22, rf23, rf24, rf25, rf26, rf27, rf28, rf29, rf30, rf31, rf32, rf33, rf34, rf35, rf36, rf37, rf38]
theorem fc_whole (n : Int) : Fc N (.tup [.int n, .int 1]) (n * N) := ⟨n, 1, rfl, by decide, by have := hN.pos; omega, by omega⟩
end
end K89
end

section
set_option maxRecDepth 100000
set_option Elab.async false
set_option linter.all false
/-! W2: walks: the law's own fractions, the stream, sameness. -/
namespace K89
open Pv
theorem euclid (C : Cxt) (n d : Int) : ∀ (m : Nat) (a b : Int), a.toNat = m → 0 ≤ a → 0 ≤ b →
    M.whl C (.e (.cmp .gt (.var 2) (.cst (.int 0)))) (.cons (.par [2, 3] (.cons (.bin .mod (.bi .int (.cons (.var 3) .nil)) (.var 2)) (.cons (.var 2) .nil))) .nil) [some (.val (.int n)), some (.val (.int d)), some (.val (.int a)), some (.val (.int b))] =
      some (.ok .next [some (.val (.int n)), some (.val (.int d)), some (.val (.int 0)), some (.val (.int (Int.gcd a b)))]) := by
  intro m
  induction m using Nat.strongRecOn with
  | _ m ih =>
    intro a b hm ha hb
    rw [M_whl]
    by_cases h : 0 < a
    · have h1 : decide ((0 : Int) < a) = true := by simp [h]
      have h2 : ((a : Int) ≠ 0) := by omega
      have e : Int.gcd a b = Int.gcd (b % a) a := by
        unfold Int.gcd
        rw [Nat.gcd_rec]
        congr 1
        have hx : ((b.natAbs % a.natAbs : Nat) : Int) = b % a := by
          rw [Int.natCast_emod, Int.natAbs_of_nonneg hb, Int.natAbs_of_nonneg ha]
        omega
      have l1 : 0 ≤ b % a := Int.emod_nonneg b h2
      have l2 : b % a < a := Int.emod_lt_of_pos b h
      have := ih (b % a).toNat (by omega) (b % a) a rfl l1 ha
      rw [e]
      simp -dsimp only [whlK_next, M_run, varH_val, varH_ol, varH_od, varH_oi, M_cx_rf, M_cx_sub, M_cx_call, seqG_next, seqG_ret, seqG_brk, seqG_cnt, nox_ok, wipe, forA_some, forK_next, forK_cnt, forK_brk, forK_ret, forK_exc, whlK_next, whlK_cnt, whlK_brk, whlK_ret, whlK_exc, whlB_t, whlB_f, lcA_some, lcB_t, lcB_f, M_ev_var, M_ev_pth, M_ev_cst, M_ev_glb, M_ev_bin, M_ev_neg, M_ev_cmp, M_ev_chn, M_ev_and, M_ev_or, M_ev_not, M_ev_iff, M_ev_tup, M_ev_lst, M_ev_ix, M_ev_slc, M_ev_rev, M_ev_call, M_ev_mth, M_ev_new, M_ev_att, M_ev_bi, M_ev_isi, M_ev_isx, M_ev_dget, M_ev_dct0, M_ev_pop, M_ev_popi, M_ev_lc, M_ev_dc, M_ev_stk, M_tst_e, M_tst_and, M_tst_or, M_tst_not, M_tstO_no, M_tstO_yes, M_evs_nil, M_evs_cons, M_evD_nil, M_evD_cons, M_evO_no, M_evO_yes, M_evI_e, M_evI_r1, M_evI_r2, M_ex_asg, M_ex_par, M_ex_mov, M_ex_aug, M_ex_sIx, M_ex_sAt, M_ex_augIx, M_ex_augAt, M_ex_exp, M_ex_app, M_ex_ext, M_ex_ins, M_ex_iff, M_ex_whl, M_ex_for_, M_ex_forO, M_ex_ret, M_ex_retM, M_ex_retN, M_ex_brk, M_ex_cnt, M_ex_pass, M_ex_rais, M_ex_stk, M_ex_tr, M_exs_nil, M_exs_cons, M_exh_nil, M_exh_cons, List.length_cons, List.length_nil, Nat.zero_add, Nat.reduceAdd, Nat.reduceSub, Nat.reduceLeDiff, Nat.reduceLT, if_pos, List.map_cons, List.map_nil, rb_ok, rb_none, ob_some, ob_none, sGet, List.cons_append, List.nil_append, List.replicate, cmpH, peek, look, peekV, vals_map, fzL_map, vals, cmpD, fits, fit, fitL, eqv, lf, truV, blOf, Bool.false_eq_true, if_false, if_true, List.set, asgH, esc, put, setP, getP, fz, fzL, asgH.lf', asgD, asgNs, biH, peeks, biD, lenV, newH, binH, binD, ixH, subH, toSV, toSVs, setSVs, okS, setH, setV, isOl, appH, fin_next, fin_ret, outsOf, callH, handArgs, handed, noTwice, backArgs, retH_val, retH_ol, retH_od, retH_oi, List.headD_cons, List.tail_cons, List.headD_nil, List.tail_nil, seqOf, decide_true, decide_false, Bool.and_self, Bool.true_and, Bool.and_true, Bool.false_and, Bool.and_false, Bool.not_true, Bool.not_false, Bool.or_true, Bool.or_false, Bool.true_or, Bool.false_or, List.isEmpty_cons, List.isEmpty_nil, reduceCtorEq, List.contains_nil, List.contains_cons, Nat.reduceBEq, sizeOk, atI_c0, atI_c1, atI_c2, atI_c3, atI_c4, slcD, cut_1, intOf, ix_30, ix_31, ix_32, isTy, List.any_cons, List.any_nil, isNon, isNonV, List.length_map, augD, List.getElem?_cons_zero, List.getElem?_cons_succ, Int.reduceLT, ix_10, ix_1m, ix_20, ix_21, ix_2m, ix_3m, ix_40, ix_41, ix_42, ix_43, ix_4m, ix_50, ix_51, ix_52, ix_53, ix_54, ix_5m, ix_60, ix_61, ix_62, ix_63, ix_64, ix_65, ix_6m, ix_70, ix_71, ix_72, ix_73, ix_74, ix_75, ix_76, ix_7m, ix_80, ix_81, ix_82, ix_83, ix_84, ix_85, ix_86, ix_87, ix_8m, rf0, rf1, rf2, rf3, rf4, rf5, rf6, rf7, rf8, rf9, rf10, rf11, rf12, rf13, rf14, rf15, rf16, rf17, rf18, rf19, rf20, rf21, rf22, rf23, rf24, rf25, rf26, rf27, rf28, rf29, rf30, rf31, rf32, rf33, rf34, rf35, rf36, rf37, rf38, h1, h2, fmod_pos h, ne_eq, not_false_eq_true]
      exact this
    · have h1 : decide ((0 : Int) < a) = false := by simp; omega
      have h0 : a = 0 := by omega
      subst h0
      have e : (Int.gcd 0 b : Int) = b := by rw [Int.gcd_zero_left]; omega
      simp -dsimp only [whlK_next, M_run, varH_val, varH_ol, varH_od, varH_oi, M_cx_rf, M_cx_sub, M_cx_call, seqG_next, seqG_ret, seqG_brk, seqG_cnt, nox_ok, wipe, forA_some, forK_next, forK_cnt, forK_brk, forK_ret, forK_exc, whlK_next, whlK_cnt, whlK_brk, whlK_ret, whlK_exc, whlB_t, whlB_f, lcA_some, lcB_t, lcB_f, M_ev_var, M_ev_pth, M_ev_cst, M_ev_glb, M_ev_bin, M_ev_neg, M_ev_cmp, M_ev_chn, M_ev_and, M_ev_or, M_ev_not, M_ev_iff, M_ev_tup, M_ev_lst, M_ev_ix, M_ev_slc, M_ev_rev, M_ev_call, M_ev_mth, M_ev_new, M_ev_att, M_ev_bi, M_ev_isi, M_ev_isx, M_ev_dget, M_ev_dct0, M_ev_pop, M_ev_popi, M_ev_lc, M_ev_dc, M_ev_stk, M_tst_e, M_tst_and, M_tst_or, M_tst_not, M_tstO_no, M_tstO_yes, M_evs_nil, M_evs_cons, M_evD_nil, M_evD_cons, M_evO_no, M_evO_yes, M_evI_e, M_evI_r1, M_evI_r2, M_ex_asg, M_ex_par, M_ex_mov, M_ex_aug, M_ex_sIx, M_ex_sAt, M_ex_augIx, M_ex_augAt, M_ex_exp, M_ex_app, M_ex_ext, M_ex_ins, M_ex_iff, M_ex_whl, M_ex_for_, M_ex_forO, M_ex_ret, M_ex_retM, M_ex_retN, M_ex_brk, M_ex_cnt, M_ex_pass, M_ex_rais, M_ex_stk, M_ex_tr, M_exs_nil, M_exs_cons, M_exh_nil, M_exh_cons, List.length_cons, List.length_nil, Nat.zero_add, Nat.reduceAdd, Nat.reduceSub, Nat.reduceLeDiff, Nat.reduceLT, if_pos, List.map_cons, List.map_nil, rb_ok, rb_none, ob_some, ob_none, sGet, List.cons_append, List.nil_append, List.replicate, cmpH, peek, look, peekV, vals_map, fzL_map, vals, cmpD, fits, fit, fitL, eqv, lf, truV, blOf, Bool.false_eq_true, if_false, if_true, List.set, asgH, esc, put, setP, getP, fz, fzL, asgH.lf', asgD, asgNs, biH, peeks, biD, lenV, newH, binH, binD, ixH, subH, toSV, toSVs, setSVs, okS, setH, setV, isOl, appH, fin_next, fin_ret, outsOf, callH, handArgs, handed, noTwice, backArgs, retH_val, retH_ol, retH_od, retH_oi, List.headD_cons, List.tail_cons, List.headD_nil, List.tail_nil, seqOf, decide_true, decide_false, Bool.and_self, Bool.true_and, Bool.and_true, Bool.false_and, Bool.and_false, Bool.not_true, Bool.not_false, Bool.or_true, Bool.or_false, Bool.true_or, Bool.false_or, List.isEmpty_cons, List.isEmpty_nil, reduceCtorEq, List.contains_nil, List.contains_cons, Nat.reduceBEq, sizeOk, atI_c0, atI_c1, atI_c2, atI_c3, atI_c4, slcD, cut_1, intOf, ix_30, ix_31, ix_32, isTy, List.any_cons, List.any_nil, isNon, isNonV, List.length_map, augD, List.getElem?_cons_zero, List.getElem?_cons_succ, Int.reduceLT, ix_10, ix_1m, ix_20, ix_21, ix_2m, ix_3m, ix_40, ix_41, ix_42, ix_43, ix_4m, ix_50, ix_51, ix_52, ix_53, ix_54, ix_5m, ix_60, ix_61, ix_62, ix_63, ix_64, ix_65, ix_6m, ix_70, ix_71, ix_72, ix_73, ix_74, ix_75, ix_76, ix_7m, ix_80, ix_81, ix_82, ix_83, ix_84, ix_85, ix_86, ix_87, ix_8m, rf0, rf1, rf2, rf3, rf4, rf5, rf6, rf7, rf8, rf9, rf10, rf11, rf12, rf13, rf14, rf15, rf16, rf17, rf18, rf19, rf20, rf21, rf22, rf23, rf24, rf25, rf26, rf27, rf28, rf29, rf30, rf31, rf32, rf33, rf34, rf35, rf36, rf37, rf38, h1, e]
section
variable {N : Int} [hN : Nice N]
theorem w_lfraction (k : Nat) (n d z : Int) (hd : d ≠ 0) (hs : d.natAbs < 2 ^ 60) (hz : n * N = z * d) : M.call prog (k+1) 17 [.val (.int n), .val (.int d)] = some (.ok (.val (fr N z)) []) := by
  have ab : ∀ x : Int, (if x < 0 then -x else x) = x.natAbs := by intro x; split <;> omega
  have eu := euclid (M.cx prog k) n d _ (n.natAbs) (d.natAbs) rfl (by omega) (by omega)
  have gg : (Int.gcd (n.natAbs : Int) (d.natAbs : Int) : Int) = Int.gcd n d := by simp [Int.gcd]
  rw [gg] at eu
  have hg := gcd_bound (n := n) hd hs
  have hc : 0 < (Int.gcd n d : Int) := by have := Int.gcd_pos_of_ne_zero_right n hd; omega
  by_cases hp : 0 < d
  · have h2 : (decide (d < (0:Int))) = false := by simp; omega
    obtain ⟨e1, e2⟩ := fr_of hp hz
    simp -dsimp only [g17, f_law_fraction, M_run, varH_val, varH_ol, varH_od, varH_oi, M_cx_rf, M_cx_sub, M_cx_call, seqG_next, seqG_ret, seqG_brk, seqG_cnt, nox_ok, wipe, forA_some, forK_next, forK_cnt, forK_brk, forK_ret, forK_exc, whlK_next, whlK_cnt, whlK_brk, whlK_ret, whlK_exc, whlB_t, whlB_f, lcA_some, lcB_t, lcB_f, M_ev_var, M_ev_pth, M_ev_cst, M_ev_glb, M_ev_bin, M_ev_neg, M_ev_cmp, M_ev_chn, M_ev_and, M_ev_or, M_ev_not, M_ev_iff, M_ev_tup, M_ev_lst, M_ev_ix, M_ev_slc, M_ev_rev, M_ev_call, M_ev_mth, M_ev_new, M_ev_att, M_ev_bi, M_ev_isi, M_ev_isx, M_ev_dget, M_ev_dct0, M_ev_pop, M_ev_popi, M_ev_lc, M_ev_dc, M_ev_stk, M_tst_e, M_tst_and, M_tst_or, M_tst_not, M_tstO_no, M_tstO_yes, M_evs_nil, M_evs_cons, M_evD_nil, M_evD_cons, M_evO_no, M_evO_yes, M_evI_e, M_evI_r1, M_evI_r2, M_ex_asg, M_ex_par, M_ex_mov, M_ex_aug, M_ex_sIx, M_ex_sAt, M_ex_augIx, M_ex_augAt, M_ex_exp, M_ex_app, M_ex_ext, M_ex_ins, M_ex_iff, M_ex_whl, M_ex_for_, M_ex_forO, M_ex_ret, M_ex_retM, M_ex_retN, M_ex_brk, M_ex_cnt, M_ex_pass, M_ex_rais, M_ex_stk, M_ex_tr, M_exs_nil, M_exs_cons, M_exh_nil, M_exh_cons, List.length_cons, List.length_nil, Nat.zero_add, Nat.reduceAdd, Nat.reduceSub, Nat.reduceLeDiff, Nat.reduceLT, if_pos, List.map_cons, List.map_nil, rb_ok, rb_none, ob_some, ob_none, sGet, List.cons_append, List.nil_append, List.replicate, cmpH, peek, look, peekV, vals_map, fzL_map, vals, cmpD, fits, fit, fitL, eqv, lf, truV, blOf, Bool.false_eq_true, if_false, if_true, List.set, asgH, esc, put, setP, getP, fz, fzL, asgH.lf', asgD, asgNs, biH, peeks, biD, lenV, newH, binH, binD, ixH, subH, toSV, toSVs, setSVs, okS, setH, setV, isOl, appH, fin_next, fin_ret, outsOf, callH, handArgs, handed, noTwice, backArgs, retH_val, retH_ol, retH_od, retH_oi, List.headD_cons, List.tail_cons, List.headD_nil, List.tail_nil, seqOf, decide_true, decide_false, Bool.and_self, Bool.true_and, Bool.and_true, Bool.false_and, Bool.and_false, Bool.not_true, Bool.not_false, Bool.or_true, Bool.or_false, Bool.true_or, Bool.false_or, List.isEmpty_cons, List.isEmpty_nil, reduceCtorEq, List.contains_nil, List.contains_cons, Nat.reduceBEq, sizeOk, atI_c0, atI_c1, atI_c2, atI_c3, atI_c4, slcD, cut_1, intOf, ix_30, ix_31, ix_32, isTy, List.any_cons, List.any_nil, isNon, isNonV, List.length_map, augD, List.getElem?_cons_zero, List.getElem?_cons_succ, Int.reduceLT, ix_10, ix_1m, ix_20, ix_21, ix_2m, ix_3m, ix_40, ix_41, ix_42, ix_43, ix_4m, ix_50, ix_51, ix_52, ix_53, ix_54, ix_5m, ix_60, ix_61, ix_62, ix_63, ix_64, ix_65, ix_6m, ix_70, ix_71, ix_72, ix_73, ix_74, ix_75, ix_76, ix_7m, ix_80, ix_81, ix_82, ix_83, ix_84, ix_85, ix_86, ix_87, ix_8m, rf0, rf1, rf2, rf3, rf4, rf5, rf6, rf7, rf8, rf9, rf10, rf11, rf12, rf13, rf14, rf15, rf16, rf17, rf18, rf19, rf20, rf21, rf22, rf23, rf24, rf25, rf26, rf27, rf28, rf29, rf30, rf31, rf32, rf33, rf34, rf35, rf36, rf37, rf38, ab, eu, h2, hg, fr, ← e1, ← e2, fdiv_pos hc]
  · have h2 : (decide (d < (0:Int))) = true := by simp; omega
    obtain ⟨e1, e2⟩ := fr_of (n := -n) (d := -d) (z := z) (by omega) (by rw [Int.neg_mul, hz, Int.mul_neg])
    have g2 : (Int.gcd (-n) (-d) : Int) = Int.gcd n d := by simp
    rw [g2] at e1 e2
    have hg' : divOk (-(Int.gcd n d : Int)) = true := by
      have h1 := Int.gcd_pos_of_ne_zero_right n hd
      have h2 : Int.gcd n d ≤ d.natAbs := Nat.le_of_dvd (by omega) (Int.natAbs_dvd_natAbs.mpr (Int.gcd_dvd_right n d))
      exact div_s (by omega) (by omega)
    have f1 : ∀ x : Int, x.fdiv (-(Int.gcd n d : Int)) = (-x) / (Int.gcd n d : Int) := by
      intro x
      have := Int.neg_fdiv_neg (-x) (Int.gcd n d : Int)
      rw [Int.neg_neg] at this
      rw [this, fdiv_pos hc]
    simp -dsimp only [g17, f_law_fraction, M_run, varH_val, varH_ol, varH_od, varH_oi, M_cx_rf, M_cx_sub, M_cx_call, seqG_next, seqG_ret, seqG_brk, seqG_cnt, nox_ok, wipe, forA_some, forK_next, forK_cnt, forK_brk, forK_ret, forK_exc, whlK_next, whlK_cnt, whlK_brk, whlK_ret, whlK_exc, whlB_t, whlB_f, lcA_some, lcB_t, lcB_f, M_ev_var, M_ev_pth, M_ev_cst, M_ev_glb, M_ev_bin, M_ev_neg, M_ev_cmp, M_ev_chn, M_ev_and, M_ev_or, M_ev_not, M_ev_iff, M_ev_tup, M_ev_lst, M_ev_ix, M_ev_slc, M_ev_rev, M_ev_call, M_ev_mth, M_ev_new, M_ev_att, M_ev_bi, M_ev_isi, M_ev_isx, M_ev_dget, M_ev_dct0, M_ev_pop, M_ev_popi, M_ev_lc, M_ev_dc, M_ev_stk, M_tst_e, M_tst_and, M_tst_or, M_tst_not, M_tstO_no, M_tstO_yes, M_evs_nil, M_evs_cons, M_evD_nil, M_evD_cons, M_evO_no, M_evO_yes, M_evI_e, M_evI_r1, M_evI_r2, M_ex_asg, M_ex_par, M_ex_mov, M_ex_aug, M_ex_sIx, M_ex_sAt, M_ex_augIx, M_ex_augAt, M_ex_exp, M_ex_app, M_ex_ext, M_ex_ins, M_ex_iff, M_ex_whl, M_ex_for_, M_ex_forO, M_ex_ret, M_ex_retM, M_ex_retN, M_ex_brk, M_ex_cnt, M_ex_pass, M_ex_rais, M_ex_stk, M_ex_tr, M_exs_nil, M_exs_cons, M_exh_nil, M_exh_cons, List.length_cons, List.length_nil, Nat.zero_add, Nat.reduceAdd, Nat.reduceSub, Nat.reduceLeDiff, Nat.reduceLT, if_pos, List.map_cons, List.map_nil, rb_ok, rb_none, ob_some, ob_none, sGet, List.cons_append, List.nil_append, List.replicate, cmpH, peek, look, peekV, vals_map, fzL_map, vals, cmpD, fits, fit, fitL, eqv, lf, truV, blOf, Bool.false_eq_true, if_false, if_true, List.set, asgH, esc, put, setP, getP, fz, fzL, asgH.lf', asgD, asgNs, biH, peeks, biD, lenV, newH, binH, binD, ixH, subH, toSV, toSVs, setSVs, okS, setH, setV, isOl, appH, fin_next, fin_ret, outsOf, callH, handArgs, handed, noTwice, backArgs, retH_val, retH_ol, retH_od, retH_oi, List.headD_cons, List.tail_cons, List.headD_nil, List.tail_nil, seqOf, decide_true, decide_false, Bool.and_self, Bool.true_and, Bool.and_true, Bool.false_and, Bool.and_false, Bool.not_true, Bool.not_false, Bool.or_true, Bool.or_false, Bool.true_or, Bool.false_or, List.isEmpty_cons, List.isEmpty_nil, reduceCtorEq, List.contains_nil, List.contains_cons, Nat.reduceBEq, sizeOk, atI_c0, atI_c1, atI_c2, atI_c3, atI_c4, slcD, cut_1, intOf, ix_30, ix_31, ix_32, isTy, List.any_cons, List.any_nil, isNon, isNonV, List.length_map, augD, List.getElem?_cons_zero, List.getElem?_cons_succ, Int.reduceLT, ix_10, ix_1m, ix_20, ix_21, ix_2m, ix_3m, ix_40, ix_41, ix_42, ix_43, ix_4m, ix_50, ix_51, ix_52, ix_53, ix_54, ix_5m, ix_60, ix_61, ix_62, ix_63, ix_64, ix_65, ix_6m, ix_70, ix_71, ix_72, ix_73, ix_74, ix_75, ix_76, ix_7m, ix_80, ix_81, ix_82, ix_83, ix_84, ix_85, ix_86, ix_87, ix_8m, rf0, rf1, rf2, rf3, rf4, rf5, rf6, rf7, rf8, rf9, rf10, rf11, rf12, rf13, rf14, rf15, rf16, rf17, rf18, rf19, rf20, rf21, rf22, rf23, rf24, rf25, rf26, rf27, rf28, rf29, rf30, rf31, rf32, rf33, rf34, rf35, rf36, rf37, rf38, ab, eu, h2, hg', fr, ← e1, ← e2, f1]
theorem w_lplus (k : Nat) {p q : D} {z w : Int} (hp : Fc N p z) (hq : Fc N q w) : M.call prog (k+2) 18 [.val p, .val q] = some (.ok (.val (fr N (z + w))) []) := by
  obtain ⟨a, b, rfl, b1, b2, hz⟩ := hp
  obtain ⟨c, d, rfl, d1, d2, hw⟩ := hq
  obtain ⟨m1, m2⟩ := small_mul b1 b2 d1 d2
  have h := w_lfraction k (a * d + c * b) (b * d) (z + w) m1 m2 (plus_z hz hw)
  simp -dsimp only [g18, f_law_plus, M_run, varH_val, varH_ol, varH_od, varH_oi, M_cx_rf, M_cx_sub, M_cx_call, seqG_next, seqG_ret, seqG_brk, seqG_cnt, nox_ok, wipe, forA_some, forK_next, forK_cnt, forK_brk, forK_ret, forK_exc, whlK_next, whlK_cnt, whlK_brk, whlK_ret, whlK_exc, whlB_t, whlB_f, lcA_some, lcB_t, lcB_f, M_ev_var, M_ev_pth, M_ev_cst, M_ev_glb, M_ev_bin, M_ev_neg, M_ev_cmp, M_ev_chn, M_ev_and, M_ev_or, M_ev_not, M_ev_iff, M_ev_tup, M_ev_lst, M_ev_ix, M_ev_slc, M_ev_rev, M_ev_call, M_ev_mth, M_ev_new, M_ev_att, M_ev_bi, M_ev_isi, M_ev_isx, M_ev_dget, M_ev_dct0, M_ev_pop, M_ev_popi, M_ev_lc, M_ev_dc, M_ev_stk, M_tst_e, M_tst_and, M_tst_or, M_tst_not, M_tstO_no, M_tstO_yes, M_evs_nil, M_evs_cons, M_evD_nil, M_evD_cons, M_evO_no, M_evO_yes, M_evI_e, M_evI_r1, M_evI_r2, M_ex_asg, M_ex_par, M_ex_mov, M_ex_aug, M_ex_sIx, M_ex_sAt, M_ex_augIx, M_ex_augAt, M_ex_exp, M_ex_app, M_ex_ext, M_ex_ins, M_ex_iff, M_ex_whl, M_ex_for_, M_ex_forO, M_ex_ret, M_ex_retM, M_ex_retN, M_ex_brk, M_ex_cnt, M_ex_pass, M_ex_rais, M_ex_stk, M_ex_tr, M_exs_nil, M_exs_cons, M_exh_nil, M_exh_cons, List.length_cons, List.length_nil, Nat.zero_add, Nat.reduceAdd, Nat.reduceSub, Nat.reduceLeDiff, Nat.reduceLT, if_pos, List.map_cons, List.map_nil, rb_ok, rb_none, ob_some, ob_none, sGet, List.cons_append, List.nil_append, List.replicate, cmpH, peek, look, peekV, vals_map, fzL_map, vals, cmpD, fits, fit, fitL, eqv, lf, truV, blOf, Bool.false_eq_true, if_false, if_true, List.set, asgH, esc, put, setP, getP, fz, fzL, asgH.lf', asgD, asgNs, biH, peeks, biD, lenV, newH, binH, binD, ixH, subH, toSV, toSVs, setSVs, okS, setH, setV, isOl, appH, fin_next, fin_ret, outsOf, callH, handArgs, handed, noTwice, backArgs, retH_val, retH_ol, retH_od, retH_oi, List.headD_cons, List.tail_cons, List.headD_nil, List.tail_nil, seqOf, decide_true, decide_false, Bool.and_self, Bool.true_and, Bool.and_true, Bool.false_and, Bool.and_false, Bool.not_true, Bool.not_false, Bool.or_true, Bool.or_false, Bool.true_or, Bool.false_or, List.isEmpty_cons, List.isEmpty_nil, reduceCtorEq, List.contains_nil, List.contains_cons, Nat.reduceBEq, sizeOk, atI_c0, atI_c1, atI_c2, atI_c3, atI_c4, slcD, cut_1, intOf, ix_30, ix_31, ix_32, isTy, List.any_cons, List.any_nil, isNon, isNonV, List.length_map, augD, List.getElem?_cons_zero, List.getElem?_cons_succ, Int.reduceLT, ix_10, ix_1m, ix_20, ix_21, ix_2m, ix_3m, ix_40, ix_41, ix_42, ix_43, ix_4m, ix_50, ix_51, ix_52, ix_53, ix_54, ix_5m, ix_60, ix_61, ix_62, ix_63, ix_64, ix_65, ix_6m, ix_70, ix_71, ix_72, ix_73, ix_74, ix_75, ix_76, ix_7m, ix_80, ix_81, ix_82, ix_83, ix_84, ix_85, ix_86, ix_87, ix_8m, rf0, rf1, rf2, rf3, rf4, rf5, rf6, rf7, rf8, rf9, rf10, rf11, rf12, rf13, rf14, rf15, rf16, rf17, rf18, rf19, rf20, rf21, rf22, rf23, rf24, rf25, rf26, rf27, rf28, rf29, rf30, rf31, rf32, rf33, rf34, rf35, rf36, rf37, rf38, rf17, mul_small d1 d2, mul_small b1 b2, h, fr]
theorem w_lminus (k : Nat) {p q : D} {z w : Int} (hp : Fc N p z) (hq : Fc N q w) : M.call prog (k+2) 19 [.val p, .val q] = some (.ok (.val (fr N (z - w))) []) := by
  obtain ⟨a, b, rfl, b1, b2, hz⟩ := hp
  obtain ⟨c, d, rfl, d1, d2, hw⟩ := hq
  obtain ⟨m1, m2⟩ := small_mul b1 b2 d1 d2
  have h := w_lfraction k (a * d - c * b) (b * d) (z - w) m1 m2 (minus_z hz hw)
  simp -dsimp only [g19, f_law_minus, M_run, varH_val, varH_ol, varH_od, varH_oi, M_cx_rf, M_cx_sub, M_cx_call, seqG_next, seqG_ret, seqG_brk, seqG_cnt, nox_ok, wipe, forA_some, forK_next, forK_cnt, forK_brk, forK_ret, forK_exc, whlK_next, whlK_cnt, whlK_brk, whlK_ret, whlK_exc, whlB_t, whlB_f, lcA_some, lcB_t, lcB_f, M_ev_var, M_ev_pth, M_ev_cst, M_ev_glb, M_ev_bin, M_ev_neg, M_ev_cmp, M_ev_chn, M_ev_and, M_ev_or, M_ev_not, M_ev_iff, M_ev_tup, M_ev_lst, M_ev_ix, M_ev_slc, M_ev_rev, M_ev_call, M_ev_mth, M_ev_new, M_ev_att, M_ev_bi, M_ev_isi, M_ev_isx, M_ev_dget, M_ev_dct0, M_ev_pop, M_ev_popi, M_ev_lc, M_ev_dc, M_ev_stk, M_tst_e, M_tst_and, M_tst_or, M_tst_not, M_tstO_no, M_tstO_yes, M_evs_nil, M_evs_cons, M_evD_nil, M_evD_cons, M_evO_no, M_evO_yes, M_evI_e, M_evI_r1, M_evI_r2, M_ex_asg, M_ex_par, M_ex_mov, M_ex_aug, M_ex_sIx, M_ex_sAt, M_ex_augIx, M_ex_augAt, M_ex_exp, M_ex_app, M_ex_ext, M_ex_ins, M_ex_iff, M_ex_whl, M_ex_for_, M_ex_forO, M_ex_ret, M_ex_retM, M_ex_retN, M_ex_brk, M_ex_cnt, M_ex_pass, M_ex_rais, M_ex_stk, M_ex_tr, M_exs_nil, M_exs_cons, M_exh_nil, M_exh_cons, List.length_cons, List.length_nil, Nat.zero_add, Nat.reduceAdd, Nat.reduceSub, Nat.reduceLeDiff, Nat.reduceLT, if_pos, List.map_cons, List.map_nil, rb_ok, rb_none, ob_some, ob_none, sGet, List.cons_append, List.nil_append, List.replicate, cmpH, peek, look, peekV, vals_map, fzL_map, vals, cmpD, fits, fit, fitL, eqv, lf, truV, blOf, Bool.false_eq_true, if_false, if_true, List.set, asgH, esc, put, setP, getP, fz, fzL, asgH.lf', asgD, asgNs, biH, peeks, biD, lenV, newH, binH, binD, ixH, subH, toSV, toSVs, setSVs, okS, setH, setV, isOl, appH, fin_next, fin_ret, outsOf, callH, handArgs, handed, noTwice, backArgs, retH_val, retH_ol, retH_od, retH_oi, List.headD_cons, List.tail_cons, List.headD_nil, List.tail_nil, seqOf, decide_true, decide_false, Bool.and_self, Bool.true_and, Bool.and_true, Bool.false_and, Bool.and_false, Bool.not_true, Bool.not_false, Bool.or_true, Bool.or_false, Bool.true_or, Bool.false_or, List.isEmpty_cons, List.isEmpty_nil, reduceCtorEq, List.contains_nil, List.contains_cons, Nat.reduceBEq, sizeOk, atI_c0, atI_c1, atI_c2, atI_c3, atI_c4, slcD, cut_1, intOf, ix_30, ix_31, ix_32, isTy, List.any_cons, List.any_nil, isNon, isNonV, List.length_map, augD, List.getElem?_cons_zero, List.getElem?_cons_succ, Int.reduceLT, ix_10, ix_1m, ix_20, ix_21, ix_2m, ix_3m, ix_40, ix_41, ix_42, ix_43, ix_4m, ix_50, ix_51, ix_52, ix_53, ix_54, ix_5m, ix_60, ix_61, ix_62, ix_63, ix_64, ix_65, ix_6m, ix_70, ix_71, ix_72, ix_73, ix_74, ix_75, ix_76, ix_7m, ix_80, ix_81, ix_82, ix_83, ix_84, ix_85, ix_86, ix_87, ix_8m, rf0, rf1, rf2, rf3, rf4, rf5, rf6, rf7, rf8, rf9, rf10, rf11, rf12, rf13, rf14, rf15, rf16, rf17, rf18, rf19, rf20, rf21, rf22, rf23, rf24, rf25, rf26, rf27, rf28, rf29, rf30, rf31, rf32, rf33, rf34, rf35, rf36, rf37, rf38, rf17, mul_small d1 d2, mul_small b1 b2, h, fr]
end
/-! ### the stream -/
structure Sm where
  a : Int
  b : Int
  c : Int
def strm (s : Sm) : SV := .ol [.val (.int s.a), .val (.int s.b), .val (.int s.c)]
def nxd (s : Sm) : Int := (((s.c * 48271 + (s.b + 1) * 69621).fmod 2147483647 * (s.c * 48271 + (s.b + 1) * 69621).fmod 2147483647 + (s.b + 1) * 40692).fmod 2147483399 * 16807 + s.c).fmod 2147483647
/-- what is drawn, and the stream behind it -/
def nx (s : Sm) (size : Int) : Int := if 0 < s.a then s.a.fmod size else (nxd s).fmod size
def ns (s : Sm) (size : Int) : Sm := if 0 < s.a then ⟨s.a.fdiv size, s.b, s.c⟩ else ⟨s.a, s.b + 1, s.c⟩
theorem varH_strm (s : Sm) (i : Nat) (S : St) : varH (some (strm s)) i S = some (.ok (.at_ i []) S) := rfl
theorem rb_strm (s : Sm) : retH (strm s) = .fr (strm s) := rfl
theorem mod_ok {a b : Int} (h : 0 < b) : 0 ≤ a.fmod b ∧ a.fmod b < b := by
  rw [fmod_pos h]
  exact ⟨Int.emod_nonneg a (by omega), Int.emod_lt_of_pos a h⟩
theorem nx_bd (s : Sm) {size : Int} (h : 0 < size) : 0 ≤ nx s size ∧ nx s size < size := by
  unfold nx
  split <;> exact mod_ok h
theorem w_next (k : Nat) (s : Sm) (size : Int) (hs : 0 < size) (hb : size < 1073741824) : M.call prog (k+1) 15 [strm s, .val (.int size)] = some (.ok (.val (.int (nx s size))) [strm (ns s size)]) := by
  have hn : (size ≠ 0) := by omega
  obtain ⟨a, b, c⟩ := s
  by_cases h : 0 < a
  · have h1 : decide ((0 : Int) < a) = true := by simp [h]
    have hd : divOk size = true := div_s hn (by omega)
    unfold nx ns
    simp -dsimp only [g15, f_law_next, strm, M_run, varH_val, varH_ol, varH_od, varH_oi, M_cx_rf, M_cx_sub, M_cx_call, seqG_next, seqG_ret, seqG_brk, seqG_cnt, nox_ok, wipe, forA_some, forK_next, forK_cnt, forK_brk, forK_ret, forK_exc, whlK_next, whlK_cnt, whlK_brk, whlK_ret, whlK_exc, whlB_t, whlB_f, lcA_some, lcB_t, lcB_f, M_ev_var, M_ev_pth, M_ev_cst, M_ev_glb, M_ev_bin, M_ev_neg, M_ev_cmp, M_ev_chn, M_ev_and, M_ev_or, M_ev_not, M_ev_iff, M_ev_tup, M_ev_lst, M_ev_ix, M_ev_slc, M_ev_rev, M_ev_call, M_ev_mth, M_ev_new, M_ev_att, M_ev_bi, M_ev_isi, M_ev_isx, M_ev_dget, M_ev_dct0, M_ev_pop, M_ev_popi, M_ev_lc, M_ev_dc, M_ev_stk, M_tst_e, M_tst_and, M_tst_or, M_tst_not, M_tstO_no, M_tstO_yes, M_evs_nil, M_evs_cons, M_evD_nil, M_evD_cons, M_evO_no, M_evO_yes, M_evI_e, M_evI_r1, M_evI_r2, M_ex_asg, M_ex_par, M_ex_mov, M_ex_aug, M_ex_sIx, M_ex_sAt, M_ex_augIx, M_ex_augAt, M_ex_exp, M_ex_app, M_ex_ext, M_ex_ins, M_ex_iff, M_ex_whl, M_ex_for_, M_ex_forO, M_ex_ret, M_ex_retM, M_ex_retN, M_ex_brk, M_ex_cnt, M_ex_pass, M_ex_rais, M_ex_stk, M_ex_tr, M_exs_nil, M_exs_cons, M_exh_nil, M_exh_cons, List.length_cons, List.length_nil, Nat.zero_add, Nat.reduceAdd, Nat.reduceSub, Nat.reduceLeDiff, Nat.reduceLT, if_pos, List.map_cons, List.map_nil, rb_ok, rb_none, ob_some, ob_none, sGet, List.cons_append, List.nil_append, List.replicate, cmpH, peek, look, peekV, vals_map, fzL_map, vals, cmpD, fits, fit, fitL, eqv, lf, truV, blOf, Bool.false_eq_true, if_false, if_true, List.set, asgH, esc, put, setP, getP, fz, fzL, asgH.lf', asgD, asgNs, biH, peeks, biD, lenV, newH, binH, binD, ixH, subH, toSV, toSVs, setSVs, okS, setH, setV, isOl, appH, fin_next, fin_ret, outsOf, callH, handArgs, handed, noTwice, backArgs, retH_val, retH_ol, retH_od, retH_oi, List.headD_cons, List.tail_cons, List.headD_nil, List.tail_nil, seqOf, decide_true, decide_false, Bool.and_self, Bool.true_and, Bool.and_true, Bool.false_and, Bool.and_false, Bool.not_true, Bool.not_false, Bool.or_true, Bool.or_false, Bool.true_or, Bool.false_or, List.isEmpty_cons, List.isEmpty_nil, reduceCtorEq, List.contains_nil, List.contains_cons, Nat.reduceBEq, sizeOk, atI_c0, atI_c1, atI_c2, atI_c3, atI_c4, slcD, cut_1, intOf, ix_30, ix_31, ix_32, isTy, List.any_cons, List.any_nil, isNon, isNonV, List.length_map, augD, List.getElem?_cons_zero, List.getElem?_cons_succ, Int.reduceLT, ix_10, ix_1m, ix_20, ix_21, ix_2m, ix_3m, ix_40, ix_41, ix_42, ix_43, ix_4m, ix_50, ix_51, ix_52, ix_53, ix_54, ix_5m, ix_60, ix_61, ix_62, ix_63, ix_64, ix_65, ix_6m, ix_70, ix_71, ix_72, ix_73, ix_74, ix_75, ix_76, ix_7m, ix_80, ix_81, ix_82, ix_83, ix_84, ix_85, ix_86, ix_87, ix_8m, rf0, rf1, rf2, rf3, rf4, rf5, rf6, rf7, rf8, rf9, rf10, rf11, rf12, rf13, rf14, rf15, rf16, rf17, rf18, rf19, rf20, rf21, rf22, rf23, rf24, rf25, rf26, rf27, rf28, rf29, rf30, rf31, rf32, rf33, rf34, rf35, rf36, rf37, rf38, h, h1, hn, hd, ne_eq, not_false_eq_true]
  · have h1 : decide ((0 : Int) < a) = false := by simp; omega
    have m1 : ∀ x : Int, mulOk x 48271 = true := fun x => mul_r (by decide)
    have m2 : ∀ x : Int, mulOk x 69621 = true := fun x => mul_r (by decide)
    have m3 : ∀ x : Int, mulOk x 40692 = true := fun x => mul_r (by decide)
    have m4 : ∀ x : Int, mulOk x 16807 = true := fun x => mul_r (by decide)
    have n1 : ((2147483647 : Int) ≠ 0) := by decide
    have n2 : ((2147483399 : Int) ≠ 0) := by decide
    have m5 : ∀ x : Int, mulOk (x.fmod 2147483647) (x.fmod 2147483647) = true := fun x => by
      obtain ⟨q1, q2⟩ := mod_ok (a := x) (b := 2147483647) (by decide)
      exact mul_r (by omega)
    unfold nx ns nxd
    simp -dsimp only [g15, f_law_next, strm, M_run, varH_val, varH_ol, varH_od, varH_oi, M_cx_rf, M_cx_sub, M_cx_call, seqG_next, seqG_ret, seqG_brk, seqG_cnt, nox_ok, wipe, forA_some, forK_next, forK_cnt, forK_brk, forK_ret, forK_exc, whlK_next, whlK_cnt, whlK_brk, whlK_ret, whlK_exc, whlB_t, whlB_f, lcA_some, lcB_t, lcB_f, M_ev_var, M_ev_pth, M_ev_cst, M_ev_glb, M_ev_bin, M_ev_neg, M_ev_cmp, M_ev_chn, M_ev_and, M_ev_or, M_ev_not, M_ev_iff, M_ev_tup, M_ev_lst, M_ev_ix, M_ev_slc, M_ev_rev, M_ev_call, M_ev_mth, M_ev_new, M_ev_att, M_ev_bi, M_ev_isi, M_ev_isx, M_ev_dget, M_ev_dct0, M_ev_pop, M_ev_popi, M_ev_lc, M_ev_dc, M_ev_stk, M_tst_e, M_tst_and, M_tst_or, M_tst_not, M_tstO_no, M_tstO_yes, M_evs_nil, M_evs_cons, M_evD_nil, M_evD_cons, M_evO_no, M_evO_yes, M_evI_e, M_evI_r1, M_evI_r2, M_ex_asg, M_ex_par, M_ex_mov, M_ex_aug, M_ex_sIx, M_ex_sAt, M_ex_augIx, M_ex_augAt, M_ex_exp, M_ex_app, M_ex_ext, M_ex_ins, M_ex_iff, M_ex_whl, M_ex_for_, M_ex_forO, M_ex_ret, M_ex_retM, M_ex_retN, M_ex_brk, M_ex_cnt, M_ex_pass, M_ex_rais, M_ex_stk, M_ex_tr, M_exs_nil, M_exs_cons, M_exh_nil, M_exh_cons, List.length_cons, List.length_nil, Nat.zero_add, Nat.reduceAdd, Nat.reduceSub, Nat.reduceLeDiff, Nat.reduceLT, if_pos, List.map_cons, List.map_nil, rb_ok, rb_none, ob_some, ob_none, sGet, List.cons_append, List.nil_append, List.replicate, cmpH, peek, look, peekV, vals_map, fzL_map, vals, cmpD, fits, fit, fitL, eqv, lf, truV, blOf, Bool.false_eq_true, if_false, if_true, List.set, asgH, esc, put, setP, getP, fz, fzL, asgH.lf', asgD, asgNs, biH, peeks, biD, lenV, newH, binH, binD, ixH, subH, toSV, toSVs, setSVs, okS, setH, setV, isOl, appH, fin_next, fin_ret, outsOf, callH, handArgs, handed, noTwice, backArgs, retH_val, retH_ol, retH_od, retH_oi, List.headD_cons, List.tail_cons, List.headD_nil, List.tail_nil, seqOf, decide_true, decide_false, Bool.and_self, Bool.true_and, Bool.and_true, Bool.false_and, Bool.and_false, Bool.not_true, Bool.not_false, Bool.or_true, Bool.or_false, Bool.true_or, Bool.false_or, List.isEmpty_cons, List.isEmpty_nil, reduceCtorEq, List.contains_nil, List.contains_cons, Nat.reduceBEq, sizeOk, atI_c0, atI_c1, atI_c2, atI_c3, atI_c4, slcD, cut_1, intOf, ix_30, ix_31, ix_32, isTy, List.any_cons, List.any_nil, isNon, isNonV, List.length_map, augD, List.getElem?_cons_zero, List.getElem?_cons_succ, Int.reduceLT, ix_10, ix_1m, ix_20, ix_21, ix_2m, ix_3m, ix_40, ix_41, ix_42, ix_43, ix_4m, ix_50, ix_51, ix_52, ix_53, ix_54, ix_5m, ix_60, ix_61, ix_62, ix_63, ix_64, ix_65, ix_6m, ix_70, ix_71, ix_72, ix_73, ix_74, ix_75, ix_76, ix_7m, ix_80, ix_81, ix_82, ix_83, ix_84, ix_85, ix_86, ix_87, ix_8m, rf0, rf1, rf2, rf3, rf4, rf5, rf6, rf7, rf8, rf9, rf10, rf11, rf12, rf13, rf14, rf15, rf16, rf17, rf18, rf19, rf20, rf21, rf22, rf23, rf24, rf25, rf26, rf27, rf28, rf29, rf30, rf31, rf32, rf33, rf34, rf35, rf36, rf37, rf38, h, h1, hn, m1, m2, m3, m4, m5, n1, n2, ne_eq, not_false_eq_true]
theorem w_stream (k : Nat) (x : Int) : ∃ s, M.call prog (k+1) 14 [.val (.int x)] = some (.ok (strm s) []) := by
  have p1 : powOk 10 18 = true := by decide
  have n1 : ((1000003 : Int) ≠ 0) := by decide
  have n2 : ((1000000007 : Int) ≠ 0) := by decide
  by_cases h : (10 : Int) ^ (18 : Int).toNat ≤ x
  · have h1 : decide ((10 : Int) ^ (18 : Int).toNat ≤ x) = true := by simp only [h, decide_true]
    refine ⟨⟨x, 0, x.fmod 1000003⟩, ?_⟩
    simp -dsimp only [g14, f_law_stream, strm, M_run, varH_val, varH_ol, varH_od, varH_oi, M_cx_rf, M_cx_sub, M_cx_call, seqG_next, seqG_ret, seqG_brk, seqG_cnt, nox_ok, wipe, forA_some, forK_next, forK_cnt, forK_brk, forK_ret, forK_exc, whlK_next, whlK_cnt, whlK_brk, whlK_ret, whlK_exc, whlB_t, whlB_f, lcA_some, lcB_t, lcB_f, M_ev_var, M_ev_pth, M_ev_cst, M_ev_glb, M_ev_bin, M_ev_neg, M_ev_cmp, M_ev_chn, M_ev_and, M_ev_or, M_ev_not, M_ev_iff, M_ev_tup, M_ev_lst, M_ev_ix, M_ev_slc, M_ev_rev, M_ev_call, M_ev_mth, M_ev_new, M_ev_att, M_ev_bi, M_ev_isi, M_ev_isx, M_ev_dget, M_ev_dct0, M_ev_pop, M_ev_popi, M_ev_lc, M_ev_dc, M_ev_stk, M_tst_e, M_tst_and, M_tst_or, M_tst_not, M_tstO_no, M_tstO_yes, M_evs_nil, M_evs_cons, M_evD_nil, M_evD_cons, M_evO_no, M_evO_yes, M_evI_e, M_evI_r1, M_evI_r2, M_ex_asg, M_ex_par, M_ex_mov, M_ex_aug, M_ex_sIx, M_ex_sAt, M_ex_augIx, M_ex_augAt, M_ex_exp, M_ex_app, M_ex_ext, M_ex_ins, M_ex_iff, M_ex_whl, M_ex_for_, M_ex_forO, M_ex_ret, M_ex_retM, M_ex_retN, M_ex_brk, M_ex_cnt, M_ex_pass, M_ex_rais, M_ex_stk, M_ex_tr, M_exs_nil, M_exs_cons, M_exh_nil, M_exh_cons, List.length_cons, List.length_nil, Nat.zero_add, Nat.reduceAdd, Nat.reduceSub, Nat.reduceLeDiff, Nat.reduceLT, if_pos, List.map_cons, List.map_nil, rb_ok, rb_none, ob_some, ob_none, sGet, List.cons_append, List.nil_append, List.replicate, cmpH, peek, look, peekV, vals_map, fzL_map, vals, cmpD, fits, fit, fitL, eqv, lf, truV, blOf, Bool.false_eq_true, if_false, if_true, List.set, asgH, esc, put, setP, getP, fz, fzL, asgH.lf', asgD, asgNs, biH, peeks, biD, lenV, newH, binH, binD, ixH, subH, toSV, toSVs, setSVs, okS, setH, setV, isOl, appH, fin_next, fin_ret, outsOf, callH, handArgs, handed, noTwice, backArgs, retH_val, retH_ol, retH_od, retH_oi, List.headD_cons, List.tail_cons, List.headD_nil, List.tail_nil, seqOf, decide_true, decide_false, Bool.and_self, Bool.true_and, Bool.and_true, Bool.false_and, Bool.and_false, Bool.not_true, Bool.not_false, Bool.or_true, Bool.or_false, Bool.true_or, Bool.false_or, List.isEmpty_cons, List.isEmpty_nil, reduceCtorEq, List.contains_nil, List.contains_cons, Nat.reduceBEq, sizeOk, atI_c0, atI_c1, atI_c2, atI_c3, atI_c4, slcD, cut_1, intOf, ix_30, ix_31, ix_32, isTy, List.any_cons, List.any_nil, isNon, isNonV, List.length_map, augD, List.getElem?_cons_zero, List.getElem?_cons_succ, Int.reduceLT, ix_10, ix_1m, ix_20, ix_21, ix_2m, ix_3m, ix_40, ix_41, ix_42, ix_43, ix_4m, ix_50, ix_51, ix_52, ix_53, ix_54, ix_5m, ix_60, ix_61, ix_62, ix_63, ix_64, ix_65, ix_6m, ix_70, ix_71, ix_72, ix_73, ix_74, ix_75, ix_76, ix_7m, ix_80, ix_81, ix_82, ix_83, ix_84, ix_85, ix_86, ix_87, ix_8m, rf0, rf1, rf2, rf3, rf4, rf5, rf6, rf7, rf8, rf9, rf10, rf11, rf12, rf13, rf14, rf15, rf16, rf17, rf18, rf19, rf20, rf21, rf22, rf23, rf24, rf25, rf26, rf27, rf28, rf29, rf30, rf31, rf32, rf33, rf34, rf35, rf36, rf37, rf38, p1, h1, n1, ne_eq, not_false_eq_true]
  · have h1 : decide ((10 : Int) ^ (18 : Int).toNat ≤ x) = false := by simp only [h, decide_false]
    refine ⟨⟨0, 0, x.fmod 1000000007⟩, ?_⟩
    simp -dsimp only [g14, f_law_stream, strm, M_run, varH_val, varH_ol, varH_od, varH_oi, M_cx_rf, M_cx_sub, M_cx_call, seqG_next, seqG_ret, seqG_brk, seqG_cnt, nox_ok, wipe, forA_some, forK_next, forK_cnt, forK_brk, forK_ret, forK_exc, whlK_next, whlK_cnt, whlK_brk, whlK_ret, whlK_exc, whlB_t, whlB_f, lcA_some, lcB_t, lcB_f, M_ev_var, M_ev_pth, M_ev_cst, M_ev_glb, M_ev_bin, M_ev_neg, M_ev_cmp, M_ev_chn, M_ev_and, M_ev_or, M_ev_not, M_ev_iff, M_ev_tup, M_ev_lst, M_ev_ix, M_ev_slc, M_ev_rev, M_ev_call, M_ev_mth, M_ev_new, M_ev_att, M_ev_bi, M_ev_isi, M_ev_isx, M_ev_dget, M_ev_dct0, M_ev_pop, M_ev_popi, M_ev_lc, M_ev_dc, M_ev_stk, M_tst_e, M_tst_and, M_tst_or, M_tst_not, M_tstO_no, M_tstO_yes, M_evs_nil, M_evs_cons, M_evD_nil, M_evD_cons, M_evO_no, M_evO_yes, M_evI_e, M_evI_r1, M_evI_r2, M_ex_asg, M_ex_par, M_ex_mov, M_ex_aug, M_ex_sIx, M_ex_sAt, M_ex_augIx, M_ex_augAt, M_ex_exp, M_ex_app, M_ex_ext, M_ex_ins, M_ex_iff, M_ex_whl, M_ex_for_, M_ex_forO, M_ex_ret, M_ex_retM, M_ex_retN, M_ex_brk, M_ex_cnt, M_ex_pass, M_ex_rais, M_ex_stk, M_ex_tr, M_exs_nil, M_exs_cons, M_exh_nil, M_exh_cons, List.length_cons, List.length_nil, Nat.zero_add, Nat.reduceAdd, Nat.reduceSub, Nat.reduceLeDiff, Nat.reduceLT, if_pos, List.map_cons, List.map_nil, rb_ok, rb_none, ob_some, ob_none, sGet, List.cons_append, List.nil_append, List.replicate, cmpH, peek, look, peekV, vals_map, fzL_map, vals, cmpD, fits, fit, fitL, eqv, lf, truV, blOf, Bool.false_eq_true, if_false, if_true, List.set, asgH, esc, put, setP, getP, fz, fzL, asgH.lf', asgD, asgNs, biH, peeks, biD, lenV, newH, binH, binD, ixH, subH, toSV, toSVs, setSVs, okS, setH, setV, isOl, appH, fin_next, fin_ret, outsOf, callH, handArgs, handed, noTwice, backArgs, retH_val, retH_ol, retH_od, retH_oi, List.headD_cons, List.tail_cons, List.headD_nil, List.tail_nil, seqOf, decide_true, decide_false, Bool.and_self, Bool.true_and, Bool.and_true, Bool.false_and, Bool.and_false, Bool.not_true, Bool.not_false, Bool.or_true, Bool.or_false, Bool.true_or, Bool.false_or, List.isEmpty_cons, List.isEmpty_nil, reduceCtorEq, List.contains_nil, List.contains_cons, Nat.reduceBEq, sizeOk, atI_c0, atI_c1, atI_c2, atI_c3, atI_c4, slcD, cut_1, intOf, ix_30, ix_31, ix_32, isTy, List.any_cons, List.any_nil, isNon, isNonV, List.length_map, augD, List.getElem?_cons_zero, List.getElem?_cons_succ, Int.reduceLT, ix_10, ix_1m, ix_20, ix_21, ix_2m, ix_3m, ix_40, ix_41, ix_42, ix_43, ix_4m, ix_50, ix_51, ix_52, ix_53, ix_54, ix_5m, ix_60, ix_61, ix_62, ix_63, ix_64, ix_65, ix_6m, ix_70, ix_71, ix_72, ix_73, ix_74, ix_75, ix_76, ix_7m, ix_80, ix_81, ix_82, ix_83, ix_84, ix_85, ix_86, ix_87, ix_8m, rf0, rf1, rf2, rf3, rf4, rf5, rf6, rf7, rf8, rf9, rf10, rf11, rf12, rf13, rf14, rf15, rf16, rf17, rf18, rf19, rf20, rf21, rf22, rf23, rf24, rf25, rf26, rf27, rf28, rf29, rf30, rf31, rf32, rf33, rf34, rf35, rf36, rf37, rf38, p1, h1, n2, ne_eq, not_false_eq_true]
theorem w_cell (k : Nat) (ns : List Int) (i : Nat) : ∃ x, M.call prog (k+1) 13 [.val (.lst (ns.map D.int)), .val (.int i)] = some (.ok (.val (.int x)) []) := by
  by_cases h : i < ns.length
  · have h1 : decide ((i : Int) < (ns.length : Int)) = true := by simp; exact h
    have e : atI (ns.map D.int) (i : Int) = some (.int ns[i]) := by
      rw [atI_nat, List.getElem?_map, List.getElem?_eq_getElem h]; rfl
    refine ⟨ns[i], ?_⟩
    simp -dsimp only [g13, f_law_cell, M_run, varH_val, varH_ol, varH_od, varH_oi, M_cx_rf, M_cx_sub, M_cx_call, seqG_next, seqG_ret, seqG_brk, seqG_cnt, nox_ok, wipe, forA_some, forK_next, forK_cnt, forK_brk, forK_ret, forK_exc, whlK_next, whlK_cnt, whlK_brk, whlK_ret, whlK_exc, whlB_t, whlB_f, lcA_some, lcB_t, lcB_f, M_ev_var, M_ev_pth, M_ev_cst, M_ev_glb, M_ev_bin, M_ev_neg, M_ev_cmp, M_ev_chn, M_ev_and, M_ev_or, M_ev_not, M_ev_iff, M_ev_tup, M_ev_lst, M_ev_ix, M_ev_slc, M_ev_rev, M_ev_call, M_ev_mth, M_ev_new, M_ev_att, M_ev_bi, M_ev_isi, M_ev_isx, M_ev_dget, M_ev_dct0, M_ev_pop, M_ev_popi, M_ev_lc, M_ev_dc, M_ev_stk, M_tst_e, M_tst_and, M_tst_or, M_tst_not, M_tstO_no, M_tstO_yes, M_evs_nil, M_evs_cons, M_evD_nil, M_evD_cons, M_evO_no, M_evO_yes, M_evI_e, M_evI_r1, M_evI_r2, M_ex_asg, M_ex_par, M_ex_mov, M_ex_aug, M_ex_sIx, M_ex_sAt, M_ex_augIx, M_ex_augAt, M_ex_exp, M_ex_app, M_ex_ext, M_ex_ins, M_ex_iff, M_ex_whl, M_ex_for_, M_ex_forO, M_ex_ret, M_ex_retM, M_ex_retN, M_ex_brk, M_ex_cnt, M_ex_pass, M_ex_rais, M_ex_stk, M_ex_tr, M_exs_nil, M_exs_cons, M_exh_nil, M_exh_cons, List.length_cons, List.length_nil, Nat.zero_add, Nat.reduceAdd, Nat.reduceSub, Nat.reduceLeDiff, Nat.reduceLT, if_pos, List.map_cons, List.map_nil, rb_ok, rb_none, ob_some, ob_none, sGet, List.cons_append, List.nil_append, List.replicate, cmpH, peek, look, peekV, vals_map, fzL_map, vals, cmpD, fits, fit, fitL, eqv, lf, truV, blOf, Bool.false_eq_true, if_false, if_true, List.set, asgH, esc, put, setP, getP, fz, fzL, asgH.lf', asgD, asgNs, biH, peeks, biD, lenV, newH, binH, binD, ixH, subH, toSV, toSVs, setSVs, okS, setH, setV, isOl, appH, fin_next, fin_ret, outsOf, callH, handArgs, handed, noTwice, backArgs, retH_val, retH_ol, retH_od, retH_oi, List.headD_cons, List.tail_cons, List.headD_nil, List.tail_nil, seqOf, decide_true, decide_false, Bool.and_self, Bool.true_and, Bool.and_true, Bool.false_and, Bool.and_false, Bool.not_true, Bool.not_false, Bool.or_true, Bool.or_false, Bool.true_or, Bool.false_or, List.isEmpty_cons, List.isEmpty_nil, reduceCtorEq, List.contains_nil, List.contains_cons, Nat.reduceBEq, sizeOk, atI_c0, atI_c1, atI_c2, atI_c3, atI_c4, slcD, cut_1, intOf, ix_30, ix_31, ix_32, isTy, List.any_cons, List.any_nil, isNon, isNonV, List.length_map, augD, List.getElem?_cons_zero, List.getElem?_cons_succ, Int.reduceLT, ix_10, ix_1m, ix_20, ix_21, ix_2m, ix_3m, ix_40, ix_41, ix_42, ix_43, ix_4m, ix_50, ix_51, ix_52, ix_53, ix_54, ix_5m, ix_60, ix_61, ix_62, ix_63, ix_64, ix_65, ix_6m, ix_70, ix_71, ix_72, ix_73, ix_74, ix_75, ix_76, ix_7m, ix_80, ix_81, ix_82, ix_83, ix_84, ix_85, ix_86, ix_87, ix_8m, rf0, rf1, rf2, rf3, rf4, rf5, rf6, rf7, rf8, rf9, rf10, rf11, rf12, rf13, rf14, rf15, rf16, rf17, rf18, rf19, rf20, rf21, rf22, rf23, rf24, rf25, rf26, rf27, rf28, rf29, rf30, rf31, rf32, rf33, rf34, rf35, rf36, rf37, rf38, h1, e]
  · have h1 : decide ((i : Int) < (ns.length : Int)) = false := by simp; omega
    refine ⟨0, ?_⟩
    simp -dsimp only [g13, f_law_cell, M_run, varH_val, varH_ol, varH_od, varH_oi, M_cx_rf, M_cx_sub, M_cx_call, seqG_next, seqG_ret, seqG_brk, seqG_cnt, nox_ok, wipe, forA_some, forK_next, forK_cnt, forK_brk, forK_ret, forK_exc, whlK_next, whlK_cnt, whlK_brk, whlK_ret, whlK_exc, whlB_t, whlB_f, lcA_some, lcB_t, lcB_f, M_ev_var, M_ev_pth, M_ev_cst, M_ev_glb, M_ev_bin, M_ev_neg, M_ev_cmp, M_ev_chn, M_ev_and, M_ev_or, M_ev_not, M_ev_iff, M_ev_tup, M_ev_lst, M_ev_ix, M_ev_slc, M_ev_rev, M_ev_call, M_ev_mth, M_ev_new, M_ev_att, M_ev_bi, M_ev_isi, M_ev_isx, M_ev_dget, M_ev_dct0, M_ev_pop, M_ev_popi, M_ev_lc, M_ev_dc, M_ev_stk, M_tst_e, M_tst_and, M_tst_or, M_tst_not, M_tstO_no, M_tstO_yes, M_evs_nil, M_evs_cons, M_evD_nil, M_evD_cons, M_evO_no, M_evO_yes, M_evI_e, M_evI_r1, M_evI_r2, M_ex_asg, M_ex_par, M_ex_mov, M_ex_aug, M_ex_sIx, M_ex_sAt, M_ex_augIx, M_ex_augAt, M_ex_exp, M_ex_app, M_ex_ext, M_ex_ins, M_ex_iff, M_ex_whl, M_ex_for_, M_ex_forO, M_ex_ret, M_ex_retM, M_ex_retN, M_ex_brk, M_ex_cnt, M_ex_pass, M_ex_rais, M_ex_stk, M_ex_tr, M_exs_nil, M_exs_cons, M_exh_nil, M_exh_cons, List.length_cons, List.length_nil, Nat.zero_add, Nat.reduceAdd, Nat.reduceSub, Nat.reduceLeDiff, Nat.reduceLT, if_pos, List.map_cons, List.map_nil, rb_ok, rb_none, ob_some, ob_none, sGet, List.cons_append, List.nil_append, List.replicate, cmpH, peek, look, peekV, vals_map, fzL_map, vals, cmpD, fits, fit, fitL, eqv, lf, truV, blOf, Bool.false_eq_true, if_false, if_true, List.set, asgH, esc, put, setP, getP, fz, fzL, asgH.lf', asgD, asgNs, biH, peeks, biD, lenV, newH, binH, binD, ixH, subH, toSV, toSVs, setSVs, okS, setH, setV, isOl, appH, fin_next, fin_ret, outsOf, callH, handArgs, handed, noTwice, backArgs, retH_val, retH_ol, retH_od, retH_oi, List.headD_cons, List.tail_cons, List.headD_nil, List.tail_nil, seqOf, decide_true, decide_false, Bool.and_self, Bool.true_and, Bool.and_true, Bool.false_and, Bool.and_false, Bool.not_true, Bool.not_false, Bool.or_true, Bool.or_false, Bool.true_or, Bool.false_or, List.isEmpty_cons, List.isEmpty_nil, reduceCtorEq, List.contains_nil, List.contains_cons, Nat.reduceBEq, sizeOk, atI_c0, atI_c1, atI_c2, atI_c3, atI_c4, slcD, cut_1, intOf, ix_30, ix_31, ix_32, isTy, List.any_cons, List.any_nil, isNon, isNonV, List.length_map, augD, List.getElem?_cons_zero, List.getElem?_cons_succ, Int.reduceLT, ix_10, ix_1m, ix_20, ix_21, ix_2m, ix_3m, ix_40, ix_41, ix_42, ix_43, ix_4m, ix_50, ix_51, ix_52, ix_53, ix_54, ix_5m, ix_60, ix_61, ix_62, ix_63, ix_64, ix_65, ix_6m, ix_70, ix_71, ix_72, ix_73, ix_74, ix_75, ix_76, ix_7m, ix_80, ix_81, ix_82, ix_83, ix_84, ix_85, ix_86, ix_87, ix_8m, rf0, rf1, rf2, rf3, rf4, rf5, rf6, rf7, rf8, rf9, rf10, rf11, rf12, rf13, rf14, rf15, rf16, rf17, rf18, rf19, rf20, rf21, rf22, rf23, rf24, rf25, rf26, rf27, rf28, rf29, rf30, rf31, rf32, rf33, rf34, rf35, rf36, rf37, rf38, h1]
end K89
end

section
set_option maxRecDepth 100000
set_option Elab.async false
set_option linter.all false
/-! W3: walks: sameness; traces joined, led. -/
namespace K89
open Pv
/-- data that sameness goes through, n deep -/
inductive Pl : Nat → D → Prop
  | non {n : Nat} : Pl n .non
  | int {n : Nat} (i : Int) : Pl n (.int i)
  | tup {n : Nat} {xs : List D} : (∀ x ∈ xs, Pl n x) → xs.length ≤ 16777216 → Pl (n + 1) (.tup xs)
theorem Pl.mono {n m : Nat} {d : D} (h : Pl n d) : n ≤ m → Pl m d := by
  intro hm
  induction h generalizing m with
  | non => exact .non
  | int i => exact .int i
  | @tup n xs h hl ih =>
    cases m with
    | zero => omega
    | succ m => exact .tup (fun x hx => ih x hx (by omega)) hl
abbrev bSame : Ss := (.cons (.iff (.not (.e (.call 16 (.cons (.ix (.var 0) (.var 2)) (.cons (.ix (.var 1) (.var 2)) .nil))))) (.cons (.ret (.cst (.bl false))) .nil) .nil) .nil)
theorem same_loop (C : Cxt) (hr : C.rf 16 = [false, false]) (xs : List D) (h : ∀ x ∈ xs, C.call 16 [.val x, .val x] = some (.ok (.val (.bl true)) [])) : ∀ (l : List Nat), (∀ i ∈ l, i < xs.length) → ∀ u : Option SV, ∃ u', M.for_ C (.nm 2) bSame (l.map fun (k : Nat) => D.int (k : Int)) [some (.val (.tup xs)), some (.val (.tup xs)), u] = some (.ok .next [some (.val (.tup xs)), some (.val (.tup xs)), u']) := by
  intro l
  induction l with
  | nil => exact fun _ u => ⟨u, M_for_nil _ _ _ _⟩
  | cons i l ih =>
    intro hl u
    have hi : i < xs.length := hl i List.mem_cons_self
    have e : atI xs (i : Int) = some xs[i] := by rw [atI_nat, List.getElem?_eq_getElem hi]
    obtain ⟨u', ih'⟩ := ih (fun j hj => hl j (List.mem_cons_of_mem _ hj)) (some (.val (.int i)))
    refine ⟨u', ?_⟩
    rw [List.map_cons, M_for_cons]
    simp -dsimp only [M_run, varH_val, varH_ol, varH_od, varH_oi, M_cx_rf, M_cx_sub, M_cx_call, seqG_next, seqG_ret, seqG_brk, seqG_cnt, nox_ok, wipe, forA_some, forK_next, forK_cnt, forK_brk, forK_ret, forK_exc, whlK_next, whlK_cnt, whlK_brk, whlK_ret, whlK_exc, whlB_t, whlB_f, lcA_some, lcB_t, lcB_f, M_ev_var, M_ev_pth, M_ev_cst, M_ev_glb, M_ev_bin, M_ev_neg, M_ev_cmp, M_ev_chn, M_ev_and, M_ev_or, M_ev_not, M_ev_iff, M_ev_tup, M_ev_lst, M_ev_ix, M_ev_slc, M_ev_rev, M_ev_call, M_ev_mth, M_ev_new, M_ev_att, M_ev_bi, M_ev_isi, M_ev_isx, M_ev_dget, M_ev_dct0, M_ev_pop, M_ev_popi, M_ev_lc, M_ev_dc, M_ev_stk, M_tst_e, M_tst_and, M_tst_or, M_tst_not, M_tstO_no, M_tstO_yes, M_evs_nil, M_evs_cons, M_evD_nil, M_evD_cons, M_evO_no, M_evO_yes, M_evI_e, M_evI_r1, M_evI_r2, M_ex_asg, M_ex_par, M_ex_mov, M_ex_aug, M_ex_sIx, M_ex_sAt, M_ex_augIx, M_ex_augAt, M_ex_exp, M_ex_app, M_ex_ext, M_ex_ins, M_ex_iff, M_ex_whl, M_ex_for_, M_ex_forO, M_ex_ret, M_ex_retM, M_ex_retN, M_ex_brk, M_ex_cnt, M_ex_pass, M_ex_rais, M_ex_stk, M_ex_tr, M_exs_nil, M_exs_cons, M_exh_nil, M_exh_cons, List.length_cons, List.length_nil, Nat.zero_add, Nat.reduceAdd, Nat.reduceSub, Nat.reduceLeDiff, Nat.reduceLT, if_pos, List.map_cons, List.map_nil, rb_ok, rb_none, ob_some, ob_none, sGet, List.cons_append, List.nil_append, List.replicate, cmpH, peek, look, peekV, vals_map, fzL_map, vals, cmpD, fits, fit, fitL, eqv, lf, truV, blOf, Bool.false_eq_true, if_false, if_true, List.set, asgH, esc, put, setP, getP, fz, fzL, asgH.lf', asgD, asgNs, biH, peeks, biD, lenV, newH, binH, binD, ixH, subH, toSV, toSVs, setSVs, okS, setH, setV, isOl, appH, fin_next, fin_ret, outsOf, callH, handArgs, handed, noTwice, backArgs, retH_val, retH_ol, retH_od, retH_oi, List.headD_cons, List.tail_cons, List.headD_nil, List.tail_nil, seqOf, decide_true, decide_false, Bool.and_self, Bool.true_and, Bool.and_true, Bool.false_and, Bool.and_false, Bool.not_true, Bool.not_false, Bool.or_true, Bool.or_false, Bool.true_or, Bool.false_or, List.isEmpty_cons, List.isEmpty_nil, reduceCtorEq, List.contains_nil, List.contains_cons, Nat.reduceBEq, sizeOk, atI_c0, atI_c1, atI_c2, atI_c3, atI_c4, slcD, cut_1, intOf, ix_30, ix_31, ix_32, isTy, List.any_cons, List.any_nil, isNon, isNonV, List.length_map, augD, List.getElem?_cons_zero, List.getElem?_cons_succ, Int.reduceLT, ix_10, ix_1m, ix_20, ix_21, ix_2m, ix_3m, ix_40, ix_41, ix_42, ix_43, ix_4m, ix_50, ix_51, ix_52, ix_53, ix_54, ix_5m, ix_60, ix_61, ix_62, ix_63, ix_64, ix_65, ix_6m, ix_70, ix_71, ix_72, ix_73, ix_74, ix_75, ix_76, ix_7m, ix_80, ix_81, ix_82, ix_83, ix_84, ix_85, ix_86, ix_87, ix_8m, rf0, rf1, rf2, rf3, rf4, rf5, rf6, rf7, rf8, rf9, rf10, rf11, rf12, rf13, rf14, rf15, rf16, rf17, rf18, rf19, rf20, rf21, rf22, rf23, rf24, rf25, rf26, rf27, rf28, rf29, rf30, rf31, rf32, rf33, rf34, rf35, rf36, rf37, rf38, e, hr, h xs[i] (List.getElem_mem hi), forK_next, ih']
theorem w_same {n : Nat} {d : D} (h : Pl n d) : ∀ k : Nat, M.call prog (k+n+1) 16 [.val d, .val d] = some (.ok (.val (.bl true)) []) := by
  induction h with
  | non => intro k; simp -dsimp only [g16, f_law_same, M_run, varH_val, varH_ol, varH_od, varH_oi, M_cx_rf, M_cx_sub, M_cx_call, seqG_next, seqG_ret, seqG_brk, seqG_cnt, nox_ok, wipe, forA_some, forK_next, forK_cnt, forK_brk, forK_ret, forK_exc, whlK_next, whlK_cnt, whlK_brk, whlK_ret, whlK_exc, whlB_t, whlB_f, lcA_some, lcB_t, lcB_f, M_ev_var, M_ev_pth, M_ev_cst, M_ev_glb, M_ev_bin, M_ev_neg, M_ev_cmp, M_ev_chn, M_ev_and, M_ev_or, M_ev_not, M_ev_iff, M_ev_tup, M_ev_lst, M_ev_ix, M_ev_slc, M_ev_rev, M_ev_call, M_ev_mth, M_ev_new, M_ev_att, M_ev_bi, M_ev_isi, M_ev_isx, M_ev_dget, M_ev_dct0, M_ev_pop, M_ev_popi, M_ev_lc, M_ev_dc, M_ev_stk, M_tst_e, M_tst_and, M_tst_or, M_tst_not, M_tstO_no, M_tstO_yes, M_evs_nil, M_evs_cons, M_evD_nil, M_evD_cons, M_evO_no, M_evO_yes, M_evI_e, M_evI_r1, M_evI_r2, M_ex_asg, M_ex_par, M_ex_mov, M_ex_aug, M_ex_sIx, M_ex_sAt, M_ex_augIx, M_ex_augAt, M_ex_exp, M_ex_app, M_ex_ext, M_ex_ins, M_ex_iff, M_ex_whl, M_ex_for_, M_ex_forO, M_ex_ret, M_ex_retM, M_ex_retN, M_ex_brk, M_ex_cnt, M_ex_pass, M_ex_rais, M_ex_stk, M_ex_tr, M_exs_nil, M_exs_cons, M_exh_nil, M_exh_cons, List.length_cons, List.length_nil, Nat.zero_add, Nat.reduceAdd, Nat.reduceSub, Nat.reduceLeDiff, Nat.reduceLT, if_pos, List.map_cons, List.map_nil, rb_ok, rb_none, ob_some, ob_none, sGet, List.cons_append, List.nil_append, List.replicate, cmpH, peek, look, peekV, vals_map, fzL_map, vals, cmpD, fits, fit, fitL, eqv, lf, truV, blOf, Bool.false_eq_true, if_false, if_true, List.set, asgH, esc, put, setP, getP, fz, fzL, asgH.lf', asgD, asgNs, biH, peeks, biD, lenV, newH, binH, binD, ixH, subH, toSV, toSVs, setSVs, okS, setH, setV, isOl, appH, fin_next, fin_ret, outsOf, callH, handArgs, handed, noTwice, backArgs, retH_val, retH_ol, retH_od, retH_oi, List.headD_cons, List.tail_cons, List.headD_nil, List.tail_nil, seqOf, decide_true, decide_false, Bool.and_self, Bool.true_and, Bool.and_true, Bool.false_and, Bool.and_false, Bool.not_true, Bool.not_false, Bool.or_true, Bool.or_false, Bool.true_or, Bool.false_or, List.isEmpty_cons, List.isEmpty_nil, reduceCtorEq, List.contains_nil, List.contains_cons, Nat.reduceBEq, sizeOk, atI_c0, atI_c1, atI_c2, atI_c3, atI_c4, slcD, cut_1, intOf, ix_30, ix_31, ix_32, isTy, List.any_cons, List.any_nil, isNon, isNonV, List.length_map, augD, List.getElem?_cons_zero, List.getElem?_cons_succ, Int.reduceLT, ix_10, ix_1m, ix_20, ix_21, ix_2m, ix_3m, ix_40, ix_41, ix_42, ix_43, ix_4m, ix_50, ix_51, ix_52, ix_53, ix_54, ix_5m, ix_60, ix_61, ix_62, ix_63, ix_64, ix_65, ix_6m, ix_70, ix_71, ix_72, ix_73, ix_74, ix_75, ix_76, ix_7m, ix_80, ix_81, ix_82, ix_83, ix_84, ix_85, ix_86, ix_87, ix_8m, rf0, rf1, rf2, rf3, rf4, rf5, rf6, rf7, rf8, rf9, rf10, rf11, rf12, rf13, rf14, rf15, rf16, rf17, rf18, rf19, rf20, rf21, rf22, rf23, rf24, rf25, rf26, rf27, rf28, rf29, rf30, rf31, rf32, rf33, rf34, rf35, rf36, rf37, rf38]
  | int i =>
    intro k
    have e : (i == i) = true := by simp
    simp -dsimp only [g16, f_law_same, M_run, varH_val, varH_ol, varH_od, varH_oi, M_cx_rf, M_cx_sub, M_cx_call, seqG_next, seqG_ret, seqG_brk, seqG_cnt, nox_ok, wipe, forA_some, forK_next, forK_cnt, forK_brk, forK_ret, forK_exc, whlK_next, whlK_cnt, whlK_brk, whlK_ret, whlK_exc, whlB_t, whlB_f, lcA_some, lcB_t, lcB_f, M_ev_var, M_ev_pth, M_ev_cst, M_ev_glb, M_ev_bin, M_ev_neg, M_ev_cmp, M_ev_chn, M_ev_and, M_ev_or, M_ev_not, M_ev_iff, M_ev_tup, M_ev_lst, M_ev_ix, M_ev_slc, M_ev_rev, M_ev_call, M_ev_mth, M_ev_new, M_ev_att, M_ev_bi, M_ev_isi, M_ev_isx, M_ev_dget, M_ev_dct0, M_ev_pop, M_ev_popi, M_ev_lc, M_ev_dc, M_ev_stk, M_tst_e, M_tst_and, M_tst_or, M_tst_not, M_tstO_no, M_tstO_yes, M_evs_nil, M_evs_cons, M_evD_nil, M_evD_cons, M_evO_no, M_evO_yes, M_evI_e, M_evI_r1, M_evI_r2, M_ex_asg, M_ex_par, M_ex_mov, M_ex_aug, M_ex_sIx, M_ex_sAt, M_ex_augIx, M_ex_augAt, M_ex_exp, M_ex_app, M_ex_ext, M_ex_ins, M_ex_iff, M_ex_whl, M_ex_for_, M_ex_forO, M_ex_ret, M_ex_retM, M_ex_retN, M_ex_brk, M_ex_cnt, M_ex_pass, M_ex_rais, M_ex_stk, M_ex_tr, M_exs_nil, M_exs_cons, M_exh_nil, M_exh_cons, List.length_cons, List.length_nil, Nat.zero_add, Nat.reduceAdd, Nat.reduceSub, Nat.reduceLeDiff, Nat.reduceLT, if_pos, List.map_cons, List.map_nil, rb_ok, rb_none, ob_some, ob_none, sGet, List.cons_append, List.nil_append, List.replicate, cmpH, peek, look, peekV, vals_map, fzL_map, vals, cmpD, fits, fit, fitL, eqv, lf, truV, blOf, Bool.false_eq_true, if_false, if_true, List.set, asgH, esc, put, setP, getP, fz, fzL, asgH.lf', asgD, asgNs, biH, peeks, biD, lenV, newH, binH, binD, ixH, subH, toSV, toSVs, setSVs, okS, setH, setV, isOl, appH, fin_next, fin_ret, outsOf, callH, handArgs, handed, noTwice, backArgs, retH_val, retH_ol, retH_od, retH_oi, List.headD_cons, List.tail_cons, List.headD_nil, List.tail_nil, seqOf, decide_true, decide_false, Bool.and_self, Bool.true_and, Bool.and_true, Bool.false_and, Bool.and_false, Bool.not_true, Bool.not_false, Bool.or_true, Bool.or_false, Bool.true_or, Bool.false_or, List.isEmpty_cons, List.isEmpty_nil, reduceCtorEq, List.contains_nil, List.contains_cons, Nat.reduceBEq, sizeOk, atI_c0, atI_c1, atI_c2, atI_c3, atI_c4, slcD, cut_1, intOf, ix_30, ix_31, ix_32, isTy, List.any_cons, List.any_nil, isNon, isNonV, List.length_map, augD, List.getElem?_cons_zero, List.getElem?_cons_succ, Int.reduceLT, ix_10, ix_1m, ix_20, ix_21, ix_2m, ix_3m, ix_40, ix_41, ix_42, ix_43, ix_4m, ix_50, ix_51, ix_52, ix_53, ix_54, ix_5m, ix_60, ix_61, ix_62, ix_63, ix_64, ix_65, ix_6m, ix_70, ix_71, ix_72, ix_73, ix_74, ix_75, ix_76, ix_7m, ix_80, ix_81, ix_82, ix_83, ix_84, ix_85, ix_86, ix_87, ix_8m, rf0, rf1, rf2, rf3, rf4, rf5, rf6, rf7, rf8, rf9, rf10, rf11, rf12, rf13, rf14, rf15, rf16, rf17, rf18, rf19, rf20, rf21, rf22, rf23, rf24, rf25, rf26, rf27, rf28, rf29, rf30, rf31, rf32, rf33, rf34, rf35, rf36, rf37, rf38, e]
  | @tup n xs hx hz ih =>
    intro k
    have e : ((xs.length : Int) == (xs.length : Int)) = true := by simp
    obtain ⟨u, hl⟩ := same_loop (M.cx prog (k+n+1)) (M_cx_rf _ _ _) xs (fun x hx => (M_cx_call _ _ _ _).trans (ih x hx k)) (List.range xs.length) (fun i hi => List.mem_range.mp hi) none
    have hrn := rngK_nat (n := xs.length) hz
    rw [show k + (n + 1) + 1 = k + n + 1 + 1 by omega]
    simp -dsimp only [g16, f_law_same, M_run, varH_val, varH_ol, varH_od, varH_oi, M_cx_rf, M_cx_sub, M_cx_call, seqG_next, seqG_ret, seqG_brk, seqG_cnt, nox_ok, wipe, forA_some, forK_next, forK_cnt, forK_brk, forK_ret, forK_exc, whlK_next, whlK_cnt, whlK_brk, whlK_ret, whlK_exc, whlB_t, whlB_f, lcA_some, lcB_t, lcB_f, M_ev_var, M_ev_pth, M_ev_cst, M_ev_glb, M_ev_bin, M_ev_neg, M_ev_cmp, M_ev_chn, M_ev_and, M_ev_or, M_ev_not, M_ev_iff, M_ev_tup, M_ev_lst, M_ev_ix, M_ev_slc, M_ev_rev, M_ev_call, M_ev_mth, M_ev_new, M_ev_att, M_ev_bi, M_ev_isi, M_ev_isx, M_ev_dget, M_ev_dct0, M_ev_pop, M_ev_popi, M_ev_lc, M_ev_dc, M_ev_stk, M_tst_e, M_tst_and, M_tst_or, M_tst_not, M_tstO_no, M_tstO_yes, M_evs_nil, M_evs_cons, M_evD_nil, M_evD_cons, M_evO_no, M_evO_yes, M_evI_e, M_evI_r1, M_evI_r2, M_ex_asg, M_ex_par, M_ex_mov, M_ex_aug, M_ex_sIx, M_ex_sAt, M_ex_augIx, M_ex_augAt, M_ex_exp, M_ex_app, M_ex_ext, M_ex_ins, M_ex_iff, M_ex_whl, M_ex_for_, M_ex_forO, M_ex_ret, M_ex_retM, M_ex_retN, M_ex_brk, M_ex_cnt, M_ex_pass, M_ex_rais, M_ex_stk, M_ex_tr, M_exs_nil, M_exs_cons, M_exh_nil, M_exh_cons, List.length_cons, List.length_nil, Nat.zero_add, Nat.reduceAdd, Nat.reduceSub, Nat.reduceLeDiff, Nat.reduceLT, if_pos, List.map_cons, List.map_nil, rb_ok, rb_none, ob_some, ob_none, sGet, List.cons_append, List.nil_append, List.replicate, cmpH, peek, look, peekV, vals_map, fzL_map, vals, cmpD, fits, fit, fitL, eqv, lf, truV, blOf, Bool.false_eq_true, if_false, if_true, List.set, asgH, esc, put, setP, getP, fz, fzL, asgH.lf', asgD, asgNs, biH, peeks, biD, lenV, newH, binH, binD, ixH, subH, toSV, toSVs, setSVs, okS, setH, setV, isOl, appH, fin_next, fin_ret, outsOf, callH, handArgs, handed, noTwice, backArgs, retH_val, retH_ol, retH_od, retH_oi, List.headD_cons, List.tail_cons, List.headD_nil, List.tail_nil, seqOf, decide_true, decide_false, Bool.and_self, Bool.true_and, Bool.and_true, Bool.false_and, Bool.and_false, Bool.not_true, Bool.not_false, Bool.or_true, Bool.or_false, Bool.true_or, Bool.false_or, List.isEmpty_cons, List.isEmpty_nil, reduceCtorEq, List.contains_nil, List.contains_cons, Nat.reduceBEq, sizeOk, atI_c0, atI_c1, atI_c2, atI_c3, atI_c4, slcD, cut_1, intOf, ix_30, ix_31, ix_32, isTy, List.any_cons, List.any_nil, isNon, isNonV, List.length_map, augD, List.getElem?_cons_zero, List.getElem?_cons_succ, Int.reduceLT, ix_10, ix_1m, ix_20, ix_21, ix_2m, ix_3m, ix_40, ix_41, ix_42, ix_43, ix_4m, ix_50, ix_51, ix_52, ix_53, ix_54, ix_5m, ix_60, ix_61, ix_62, ix_63, ix_64, ix_65, ix_6m, ix_70, ix_71, ix_72, ix_73, ix_74, ix_75, ix_76, ix_7m, ix_80, ix_81, ix_82, ix_83, ix_84, ix_85, ix_86, ix_87, ix_8m, rf0, rf1, rf2, rf3, rf4, rf5, rf6, rf7, rf8, rf9, rf10, rf11, rf12, rf13, rf14, rf15, rf16, rf17, rf18, rf19, rf20, rf21, rf22, rf23, rf24, rf25, rf26, rf27, rf28, rf29, rf30, rf31, rf32, rf33, rf34, rf35, rf36, rf37, rf38, e, hrn, hl]
end K89
end

section
set_option maxRecDepth 100000
set_option Elab.async false
set_option linter.all false
/-! W4: walks: traces joined, moved back, led. -/
namespace K89
open Pv
section
variable {N : Int} [hN : Nice N]
abbrev Trc := List (Int × D) × Int
def item (N : Int) (p : Int × D) : D := .tup [fr N p.1, p.2]
def tr (N : Int) (t : Trc) : D := .tup [.tup (t.1.map (item N)), fr N t.2]
def joinM (u v : Trc) : Trc :=
  match v.1 with
  | [] => (u.1, u.2 + v.2)
  | p :: r => (u.1 ++ (u.2 + p.1, p.2) :: r, v.2)
def backM (u : Trc) (z : Int) : Trc :=
  match u.1 with
  | [] => ([], u.2 - z)
  | p :: r => ((p.1 - z, p.2) :: r, u.2)
theorem size_le {n : Nat} (h : n ≤ 16777216) : sizeOk n = true := decide_eq_true h
theorem len_eq0 {n : Nat} (h : n ≠ 0) : (((n : Nat) : Int) == 0) = false := by simp; omega
theorem nil_or (xs : List (Int × D)) : ((((xs.map (item N)).length : Nat) : Int) == 0) = xs.isEmpty := by
  cases xs <;> simp
  omega
theorem w_join (k : Nat) (u v : Trc) (h : u.1.length + v.1.length ≤ 1000) : M.call prog (k+3) 9 [.val (tr N u), .val (tr N v)] = some (.ok (.val (tr N (joinM u v))) []) := by
  obtain ⟨us, ur⟩ := u
  obtain ⟨vs, vr⟩ := v
  cases vs with
  | nil =>
    have hc := w_plus k (Fc.fr N ur) (Fc.fr N vr)
    have e0 : (((0 : Nat) : Int) == 0) = true := by decide
    simp -dsimp only [g9, f_join_traces, M_run, varH_val, varH_ol, varH_od, varH_oi, M_cx_rf, M_cx_sub, M_cx_call, seqG_next, seqG_ret, seqG_brk, seqG_cnt, nox_ok, wipe, forA_some, forK_next, forK_cnt, forK_brk, forK_ret, forK_exc, whlK_next, whlK_cnt, whlK_brk, whlK_ret, whlK_exc, whlB_t, whlB_f, lcA_some, lcB_t, lcB_f, M_ev_var, M_ev_pth, M_ev_cst, M_ev_glb, M_ev_bin, M_ev_neg, M_ev_cmp, M_ev_chn, M_ev_and, M_ev_or, M_ev_not, M_ev_iff, M_ev_tup, M_ev_lst, M_ev_ix, M_ev_slc, M_ev_rev, M_ev_call, M_ev_mth, M_ev_new, M_ev_att, M_ev_bi, M_ev_isi, M_ev_isx, M_ev_dget, M_ev_dct0, M_ev_pop, M_ev_popi, M_ev_lc, M_ev_dc, M_ev_stk, M_tst_e, M_tst_and, M_tst_or, M_tst_not, M_tstO_no, M_tstO_yes, M_evs_nil, M_evs_cons, M_evD_nil, M_evD_cons, M_evO_no, M_evO_yes, M_evI_e, M_evI_r1, M_evI_r2, M_ex_asg, M_ex_par, M_ex_mov, M_ex_aug, M_ex_sIx, M_ex_sAt, M_ex_augIx, M_ex_augAt, M_ex_exp, M_ex_app, M_ex_ext, M_ex_ins, M_ex_iff, M_ex_whl, M_ex_for_, M_ex_forO, M_ex_ret, M_ex_retM, M_ex_retN, M_ex_brk, M_ex_cnt, M_ex_pass, M_ex_rais, M_ex_stk, M_ex_tr, M_exs_nil, M_exs_cons, M_exh_nil, M_exh_cons, List.length_cons, List.length_nil, Nat.zero_add, Nat.reduceAdd, Nat.reduceSub, Nat.reduceLeDiff, Nat.reduceLT, if_pos, List.map_cons, List.map_nil, rb_ok, rb_none, ob_some, ob_none, sGet, List.cons_append, List.nil_append, List.replicate, cmpH, peek, look, peekV, vals_map, fzL_map, vals, cmpD, fits, fit, fitL, eqv, lf, truV, blOf, Bool.false_eq_true, if_false, if_true, List.set, asgH, esc, put, setP, getP, fz, fzL, asgH.lf', asgD, asgNs, biH, peeks, biD, lenV, newH, binH, binD, ixH, subH, toSV, toSVs, setSVs, okS, setH, setV, isOl, appH, fin_next, fin_ret, outsOf, callH, handArgs, handed, noTwice, backArgs, retH_val, retH_ol, retH_od, retH_oi, List.headD_cons, List.tail_cons, List.headD_nil, List.tail_nil, seqOf, decide_true, decide_false, Bool.and_self, Bool.true_and, Bool.and_true, Bool.false_and, Bool.and_false, Bool.not_true, Bool.not_false, Bool.or_true, Bool.or_false, Bool.true_or, Bool.false_or, List.isEmpty_cons, List.isEmpty_nil, reduceCtorEq, List.contains_nil, List.contains_cons, Nat.reduceBEq, sizeOk, atI_c0, atI_c1, atI_c2, atI_c3, atI_c4, slcD, cut_1, intOf, ix_30, ix_31, ix_32, isTy, List.any_cons, List.any_nil, isNon, isNonV, List.length_map, augD, List.getElem?_cons_zero, List.getElem?_cons_succ, Int.reduceLT, ix_10, ix_1m, ix_20, ix_21, ix_2m, ix_3m, ix_40, ix_41, ix_42, ix_43, ix_4m, ix_50, ix_51, ix_52, ix_53, ix_54, ix_5m, ix_60, ix_61, ix_62, ix_63, ix_64, ix_65, ix_6m, ix_70, ix_71, ix_72, ix_73, ix_74, ix_75, ix_76, ix_7m, ix_80, ix_81, ix_82, ix_83, ix_84, ix_85, ix_86, ix_87, ix_8m, rf0, rf1, rf2, rf3, rf4, rf5, rf6, rf7, rf8, rf9, rf10, rf11, rf12, rf13, rf14, rf15, rf16, rf17, rf18, rf19, rf20, rf21, rf22, rf23, rf24, rf25, rf26, rf27, rf28, rf29, rf30, rf31, rf32, rf33, rf34, rf35, rf36, rf37, rf38, tr, joinM, rf1, hc, e0]
  | cons p r =>
    have hc := w_plus k (Fc.fr N ur) (Fc.fr N p.1)
    have e0 : (((r.length + 1 : Nat) : Int) == 0) = false := len_eq0 (by omega)
    simp only [List.length_cons] at h
    have s1 : (us.length + 1 ≤ 16777216) := by omega
    have s2 : (us.length + 1 + r.length ≤ 16777216) := by omega
    simp -dsimp only [g9, f_join_traces, M_run, varH_val, varH_ol, varH_od, varH_oi, M_cx_rf, M_cx_sub, M_cx_call, seqG_next, seqG_ret, seqG_brk, seqG_cnt, nox_ok, wipe, forA_some, forK_next, forK_cnt, forK_brk, forK_ret, forK_exc, whlK_next, whlK_cnt, whlK_brk, whlK_ret, whlK_exc, whlB_t, whlB_f, lcA_some, lcB_t, lcB_f, M_ev_var, M_ev_pth, M_ev_cst, M_ev_glb, M_ev_bin, M_ev_neg, M_ev_cmp, M_ev_chn, M_ev_and, M_ev_or, M_ev_not, M_ev_iff, M_ev_tup, M_ev_lst, M_ev_ix, M_ev_slc, M_ev_rev, M_ev_call, M_ev_mth, M_ev_new, M_ev_att, M_ev_bi, M_ev_isi, M_ev_isx, M_ev_dget, M_ev_dct0, M_ev_pop, M_ev_popi, M_ev_lc, M_ev_dc, M_ev_stk, M_tst_e, M_tst_and, M_tst_or, M_tst_not, M_tstO_no, M_tstO_yes, M_evs_nil, M_evs_cons, M_evD_nil, M_evD_cons, M_evO_no, M_evO_yes, M_evI_e, M_evI_r1, M_evI_r2, M_ex_asg, M_ex_par, M_ex_mov, M_ex_aug, M_ex_sIx, M_ex_sAt, M_ex_augIx, M_ex_augAt, M_ex_exp, M_ex_app, M_ex_ext, M_ex_ins, M_ex_iff, M_ex_whl, M_ex_for_, M_ex_forO, M_ex_ret, M_ex_retM, M_ex_retN, M_ex_brk, M_ex_cnt, M_ex_pass, M_ex_rais, M_ex_stk, M_ex_tr, M_exs_nil, M_exs_cons, M_exh_nil, M_exh_cons, List.length_cons, List.length_nil, Nat.zero_add, Nat.reduceAdd, Nat.reduceSub, Nat.reduceLeDiff, Nat.reduceLT, if_pos, List.map_cons, List.map_nil, rb_ok, rb_none, ob_some, ob_none, sGet, List.cons_append, List.nil_append, List.replicate, cmpH, peek, look, peekV, vals_map, fzL_map, vals, cmpD, fits, fit, fitL, eqv, lf, truV, blOf, Bool.false_eq_true, if_false, if_true, List.set, asgH, esc, put, setP, getP, fz, fzL, asgH.lf', asgD, asgNs, biH, peeks, biD, lenV, newH, binH, binD, ixH, subH, toSV, toSVs, setSVs, okS, setH, setV, isOl, appH, fin_next, fin_ret, outsOf, callH, handArgs, handed, noTwice, backArgs, retH_val, retH_ol, retH_od, retH_oi, List.headD_cons, List.tail_cons, List.headD_nil, List.tail_nil, seqOf, decide_true, decide_false, Bool.and_self, Bool.true_and, Bool.and_true, Bool.false_and, Bool.and_false, Bool.not_true, Bool.not_false, Bool.or_true, Bool.or_false, Bool.true_or, Bool.false_or, List.isEmpty_cons, List.isEmpty_nil, reduceCtorEq, List.contains_nil, List.contains_cons, Nat.reduceBEq, sizeOk, atI_c0, atI_c1, atI_c2, atI_c3, atI_c4, slcD, cut_1, intOf, ix_30, ix_31, ix_32, isTy, List.any_cons, List.any_nil, isNon, isNonV, List.length_map, augD, List.getElem?_cons_zero, List.getElem?_cons_succ, Int.reduceLT, ix_10, ix_1m, ix_20, ix_21, ix_2m, ix_3m, ix_40, ix_41, ix_42, ix_43, ix_4m, ix_50, ix_51, ix_52, ix_53, ix_54, ix_5m, ix_60, ix_61, ix_62, ix_63, ix_64, ix_65, ix_6m, ix_70, ix_71, ix_72, ix_73, ix_74, ix_75, ix_76, ix_7m, ix_80, ix_81, ix_82, ix_83, ix_84, ix_85, ix_86, ix_87, ix_8m, rf0, rf1, rf2, rf3, rf4, rf5, rf6, rf7, rf8, rf9, rf10, rf11, rf12, rf13, rf14, rf15, rf16, rf17, rf18, rf19, rf20, rf21, rf22, rf23, rf24, rf25, rf26, rf27, rf28, rf29, rf30, rf31, rf32, rf33, rf34, rf35, rf36, rf37, rf38, tr, joinM, item, rf1, hc, e0, List.length_append, s1, s2, List.drop_succ_cons, List.drop_zero, List.map_append, List.append_assoc]
theorem w_ljoin (k : Nat) (u v : Trc) (h : u.1.length + v.1.length ≤ 1000) : M.call prog (k+3) 30 [.val (tr N u), .val (tr N v)] = some (.ok (.val (tr N (joinM u v))) []) := by
  obtain ⟨us, ur⟩ := u
  obtain ⟨vs, vr⟩ := v
  cases vs with
  | nil =>
    have hc := w_lplus k (Fc.fr N ur) (Fc.fr N vr)
    have e0 : (((0 : Nat) : Int) == 0) = true := by decide
    simp -dsimp only [g30, f_law_join, M_run, varH_val, varH_ol, varH_od, varH_oi, M_cx_rf, M_cx_sub, M_cx_call, seqG_next, seqG_ret, seqG_brk, seqG_cnt, nox_ok, wipe, forA_some, forK_next, forK_cnt, forK_brk, forK_ret, forK_exc, whlK_next, whlK_cnt, whlK_brk, whlK_ret, whlK_exc, whlB_t, whlB_f, lcA_some, lcB_t, lcB_f, M_ev_var, M_ev_pth, M_ev_cst, M_ev_glb, M_ev_bin, M_ev_neg, M_ev_cmp, M_ev_chn, M_ev_and, M_ev_or, M_ev_not, M_ev_iff, M_ev_tup, M_ev_lst, M_ev_ix, M_ev_slc, M_ev_rev, M_ev_call, M_ev_mth, M_ev_new, M_ev_att, M_ev_bi, M_ev_isi, M_ev_isx, M_ev_dget, M_ev_dct0, M_ev_pop, M_ev_popi, M_ev_lc, M_ev_dc, M_ev_stk, M_tst_e, M_tst_and, M_tst_or, M_tst_not, M_tstO_no, M_tstO_yes, M_evs_nil, M_evs_cons, M_evD_nil, M_evD_cons, M_evO_no, M_evO_yes, M_evI_e, M_evI_r1, M_evI_r2, M_ex_asg, M_ex_par, M_ex_mov, M_ex_aug, M_ex_sIx, M_ex_sAt, M_ex_augIx, M_ex_augAt, M_ex_exp, M_ex_app, M_ex_ext, M_ex_ins, M_ex_iff, M_ex_whl, M_ex_for_, M_ex_forO, M_ex_ret, M_ex_retM, M_ex_retN, M_ex_brk, M_ex_cnt, M_ex_pass, M_ex_rais, M_ex_stk, M_ex_tr, M_exs_nil, M_exs_cons, M_exh_nil, M_exh_cons, List.length_cons, List.length_nil, Nat.zero_add, Nat.reduceAdd, Nat.reduceSub, Nat.reduceLeDiff, Nat.reduceLT, if_pos, List.map_cons, List.map_nil, rb_ok, rb_none, ob_some, ob_none, sGet, List.cons_append, List.nil_append, List.replicate, cmpH, peek, look, peekV, vals_map, fzL_map, vals, cmpD, fits, fit, fitL, eqv, lf, truV, blOf, Bool.false_eq_true, if_false, if_true, List.set, asgH, esc, put, setP, getP, fz, fzL, asgH.lf', asgD, asgNs, biH, peeks, biD, lenV, newH, binH, binD, ixH, subH, toSV, toSVs, setSVs, okS, setH, setV, isOl, appH, fin_next, fin_ret, outsOf, callH, handArgs, handed, noTwice, backArgs, retH_val, retH_ol, retH_od, retH_oi, List.headD_cons, List.tail_cons, List.headD_nil, List.tail_nil, seqOf, decide_true, decide_false, Bool.and_self, Bool.true_and, Bool.and_true, Bool.false_and, Bool.and_false, Bool.not_true, Bool.not_false, Bool.or_true, Bool.or_false, Bool.true_or, Bool.false_or, List.isEmpty_cons, List.isEmpty_nil, reduceCtorEq, List.contains_nil, List.contains_cons, Nat.reduceBEq, sizeOk, atI_c0, atI_c1, atI_c2, atI_c3, atI_c4, slcD, cut_1, intOf, ix_30, ix_31, ix_32, isTy, List.any_cons, List.any_nil, isNon, isNonV, List.length_map, augD, List.getElem?_cons_zero, List.getElem?_cons_succ, Int.reduceLT, ix_10, ix_1m, ix_20, ix_21, ix_2m, ix_3m, ix_40, ix_41, ix_42, ix_43, ix_4m, ix_50, ix_51, ix_52, ix_53, ix_54, ix_5m, ix_60, ix_61, ix_62, ix_63, ix_64, ix_65, ix_6m, ix_70, ix_71, ix_72, ix_73, ix_74, ix_75, ix_76, ix_7m, ix_80, ix_81, ix_82, ix_83, ix_84, ix_85, ix_86, ix_87, ix_8m, rf0, rf1, rf2, rf3, rf4, rf5, rf6, rf7, rf8, rf9, rf10, rf11, rf12, rf13, rf14, rf15, rf16, rf17, rf18, rf19, rf20, rf21, rf22, rf23, rf24, rf25, rf26, rf27, rf28, rf29, rf30, rf31, rf32, rf33, rf34, rf35, rf36, rf37, rf38, tr, joinM, rf18, hc, e0]
  | cons p r =>
    have hc := w_lplus k (Fc.fr N ur) (Fc.fr N p.1)
    have e0 : (((r.length + 1 : Nat) : Int) == 0) = false := len_eq0 (by omega)
    simp only [List.length_cons] at h
    have s1 : (us.length + 1 ≤ 16777216) := by omega
    have s2 : (us.length + 1 + r.length ≤ 16777216) := by omega
    simp -dsimp only [g30, f_law_join, M_run, varH_val, varH_ol, varH_od, varH_oi, M_cx_rf, M_cx_sub, M_cx_call, seqG_next, seqG_ret, seqG_brk, seqG_cnt, nox_ok, wipe, forA_some, forK_next, forK_cnt, forK_brk, forK_ret, forK_exc, whlK_next, whlK_cnt, whlK_brk, whlK_ret, whlK_exc, whlB_t, whlB_f, lcA_some, lcB_t, lcB_f, M_ev_var, M_ev_pth, M_ev_cst, M_ev_glb, M_ev_bin, M_ev_neg, M_ev_cmp, M_ev_chn, M_ev_and, M_ev_or, M_ev_not, M_ev_iff, M_ev_tup, M_ev_lst, M_ev_ix, M_ev_slc, M_ev_rev, M_ev_call, M_ev_mth, M_ev_new, M_ev_att, M_ev_bi, M_ev_isi, M_ev_isx, M_ev_dget, M_ev_dct0, M_ev_pop, M_ev_popi, M_ev_lc, M_ev_dc, M_ev_stk, M_tst_e, M_tst_and, M_tst_or, M_tst_not, M_tstO_no, M_tstO_yes, M_evs_nil, M_evs_cons, M_evD_nil, M_evD_cons, M_evO_no, M_evO_yes, M_evI_e, M_evI_r1, M_evI_r2, M_ex_asg, M_ex_par, M_ex_mov, M_ex_aug, M_ex_sIx, M_ex_sAt, M_ex_augIx, M_ex_augAt, M_ex_exp, M_ex_app, M_ex_ext, M_ex_ins, M_ex_iff, M_ex_whl, M_ex_for_, M_ex_forO, M_ex_ret, M_ex_retM, M_ex_retN, M_ex_brk, M_ex_cnt, M_ex_pass, M_ex_rais, M_ex_stk, M_ex_tr, M_exs_nil, M_exs_cons, M_exh_nil, M_exh_cons, List.length_cons, List.length_nil, Nat.zero_add, Nat.reduceAdd, Nat.reduceSub, Nat.reduceLeDiff, Nat.reduceLT, if_pos, List.map_cons, List.map_nil, rb_ok, rb_none, ob_some, ob_none, sGet, List.cons_append, List.nil_append, List.replicate, cmpH, peek, look, peekV, vals_map, fzL_map, vals, cmpD, fits, fit, fitL, eqv, lf, truV, blOf, Bool.false_eq_true, if_false, if_true, List.set, asgH, esc, put, setP, getP, fz, fzL, asgH.lf', asgD, asgNs, biH, peeks, biD, lenV, newH, binH, binD, ixH, subH, toSV, toSVs, setSVs, okS, setH, setV, isOl, appH, fin_next, fin_ret, outsOf, callH, handArgs, handed, noTwice, backArgs, retH_val, retH_ol, retH_od, retH_oi, List.headD_cons, List.tail_cons, List.headD_nil, List.tail_nil, seqOf, decide_true, decide_false, Bool.and_self, Bool.true_and, Bool.and_true, Bool.false_and, Bool.and_false, Bool.not_true, Bool.not_false, Bool.or_true, Bool.or_false, Bool.true_or, Bool.false_or, List.isEmpty_cons, List.isEmpty_nil, reduceCtorEq, List.contains_nil, List.contains_cons, Nat.reduceBEq, sizeOk, atI_c0, atI_c1, atI_c2, atI_c3, atI_c4, slcD, cut_1, intOf, ix_30, ix_31, ix_32, isTy, List.any_cons, List.any_nil, isNon, isNonV, List.length_map, augD, List.getElem?_cons_zero, List.getElem?_cons_succ, Int.reduceLT, ix_10, ix_1m, ix_20, ix_21, ix_2m, ix_3m, ix_40, ix_41, ix_42, ix_43, ix_4m, ix_50, ix_51, ix_52, ix_53, ix_54, ix_5m, ix_60, ix_61, ix_62, ix_63, ix_64, ix_65, ix_6m, ix_70, ix_71, ix_72, ix_73, ix_74, ix_75, ix_76, ix_7m, ix_80, ix_81, ix_82, ix_83, ix_84, ix_85, ix_86, ix_87, ix_8m, rf0, rf1, rf2, rf3, rf4, rf5, rf6, rf7, rf8, rf9, rf10, rf11, rf12, rf13, rf14, rf15, rf16, rf17, rf18, rf19, rf20, rf21, rf22, rf23, rf24, rf25, rf26, rf27, rf28, rf29, rf30, rf31, rf32, rf33, rf34, rf35, rf36, rf37, rf38, tr, joinM, item, rf18, hc, e0, List.length_append, s1, s2, List.drop_succ_cons, List.drop_zero, List.map_append, List.append_assoc]
theorem w_back (k : Nat) (u : Trc) (z : Int) (h : u.1.length ≤ 1000) : M.call prog (k+3) 10 [.val (tr N u), .val (fr N z)] = some (.ok (.val (tr N (backM u z))) []) := by
  obtain ⟨us, ur⟩ := u
  cases us with
  | nil =>
    have hc := w_minus k (Fc.fr N ur) (Fc.fr N z)
    have e0 : (((0 : Nat) : Int) == 0) = true := by decide
    simp -dsimp only [g10, f_moved_back, M_run, varH_val, varH_ol, varH_od, varH_oi, M_cx_rf, M_cx_sub, M_cx_call, seqG_next, seqG_ret, seqG_brk, seqG_cnt, nox_ok, wipe, forA_some, forK_next, forK_cnt, forK_brk, forK_ret, forK_exc, whlK_next, whlK_cnt, whlK_brk, whlK_ret, whlK_exc, whlB_t, whlB_f, lcA_some, lcB_t, lcB_f, M_ev_var, M_ev_pth, M_ev_cst, M_ev_glb, M_ev_bin, M_ev_neg, M_ev_cmp, M_ev_chn, M_ev_and, M_ev_or, M_ev_not, M_ev_iff, M_ev_tup, M_ev_lst, M_ev_ix, M_ev_slc, M_ev_rev, M_ev_call, M_ev_mth, M_ev_new, M_ev_att, M_ev_bi, M_ev_isi, M_ev_isx, M_ev_dget, M_ev_dct0, M_ev_pop, M_ev_popi, M_ev_lc, M_ev_dc, M_ev_stk, M_tst_e, M_tst_and, M_tst_or, M_tst_not, M_tstO_no, M_tstO_yes, M_evs_nil, M_evs_cons, M_evD_nil, M_evD_cons, M_evO_no, M_evO_yes, M_evI_e, M_evI_r1, M_evI_r2, M_ex_asg, M_ex_par, M_ex_mov, M_ex_aug, M_ex_sIx, M_ex_sAt, M_ex_augIx, M_ex_augAt, M_ex_exp, M_ex_app, M_ex_ext, M_ex_ins, M_ex_iff, M_ex_whl, M_ex_for_, M_ex_forO, M_ex_ret, M_ex_retM, M_ex_retN, M_ex_brk, M_ex_cnt, M_ex_pass, M_ex_rais, M_ex_stk, M_ex_tr, M_exs_nil, M_exs_cons, M_exh_nil, M_exh_cons, List.length_cons, List.length_nil, Nat.zero_add, Nat.reduceAdd, Nat.reduceSub, Nat.reduceLeDiff, Nat.reduceLT, if_pos, List.map_cons, List.map_nil, rb_ok, rb_none, ob_some, ob_none, sGet, List.cons_append, List.nil_append, List.replicate, cmpH, peek, look, peekV, vals_map, fzL_map, vals, cmpD, fits, fit, fitL, eqv, lf, truV, blOf, Bool.false_eq_true, if_false, if_true, List.set, asgH, esc, put, setP, getP, fz, fzL, asgH.lf', asgD, asgNs, biH, peeks, biD, lenV, newH, binH, binD, ixH, subH, toSV, toSVs, setSVs, okS, setH, setV, isOl, appH, fin_next, fin_ret, outsOf, callH, handArgs, handed, noTwice, backArgs, retH_val, retH_ol, retH_od, retH_oi, List.headD_cons, List.tail_cons, List.headD_nil, List.tail_nil, seqOf, decide_true, decide_false, Bool.and_self, Bool.true_and, Bool.and_true, Bool.false_and, Bool.and_false, Bool.not_true, Bool.not_false, Bool.or_true, Bool.or_false, Bool.true_or, Bool.false_or, List.isEmpty_cons, List.isEmpty_nil, reduceCtorEq, List.contains_nil, List.contains_cons, Nat.reduceBEq, sizeOk, atI_c0, atI_c1, atI_c2, atI_c3, atI_c4, slcD, cut_1, intOf, ix_30, ix_31, ix_32, isTy, List.any_cons, List.any_nil, isNon, isNonV, List.length_map, augD, List.getElem?_cons_zero, List.getElem?_cons_succ, Int.reduceLT, ix_10, ix_1m, ix_20, ix_21, ix_2m, ix_3m, ix_40, ix_41, ix_42, ix_43, ix_4m, ix_50, ix_51, ix_52, ix_53, ix_54, ix_5m, ix_60, ix_61, ix_62, ix_63, ix_64, ix_65, ix_6m, ix_70, ix_71, ix_72, ix_73, ix_74, ix_75, ix_76, ix_7m, ix_80, ix_81, ix_82, ix_83, ix_84, ix_85, ix_86, ix_87, ix_8m, rf0, rf1, rf2, rf3, rf4, rf5, rf6, rf7, rf8, rf9, rf10, rf11, rf12, rf13, rf14, rf15, rf16, rf17, rf18, rf19, rf20, rf21, rf22, rf23, rf24, rf25, rf26, rf27, rf28, rf29, rf30, rf31, rf32, rf33, rf34, rf35, rf36, rf37, rf38, tr, backM, rf2, hc, e0]
  | cons p r =>
    have hc := w_minus k (Fc.fr N p.1) (Fc.fr N z)
    have e0 : (((r.length + 1 : Nat) : Int) == 0) = false := len_eq0 (by omega)
    simp only [List.length_cons] at h
    have s2 : (1 + r.length ≤ 16777216) := by omega
    simp -dsimp only [g10, f_moved_back, M_run, varH_val, varH_ol, varH_od, varH_oi, M_cx_rf, M_cx_sub, M_cx_call, seqG_next, seqG_ret, seqG_brk, seqG_cnt, nox_ok, wipe, forA_some, forK_next, forK_cnt, forK_brk, forK_ret, forK_exc, whlK_next, whlK_cnt, whlK_brk, whlK_ret, whlK_exc, whlB_t, whlB_f, lcA_some, lcB_t, lcB_f, M_ev_var, M_ev_pth, M_ev_cst, M_ev_glb, M_ev_bin, M_ev_neg, M_ev_cmp, M_ev_chn, M_ev_and, M_ev_or, M_ev_not, M_ev_iff, M_ev_tup, M_ev_lst, M_ev_ix, M_ev_slc, M_ev_rev, M_ev_call, M_ev_mth, M_ev_new, M_ev_att, M_ev_bi, M_ev_isi, M_ev_isx, M_ev_dget, M_ev_dct0, M_ev_pop, M_ev_popi, M_ev_lc, M_ev_dc, M_ev_stk, M_tst_e, M_tst_and, M_tst_or, M_tst_not, M_tstO_no, M_tstO_yes, M_evs_nil, M_evs_cons, M_evD_nil, M_evD_cons, M_evO_no, M_evO_yes, M_evI_e, M_evI_r1, M_evI_r2, M_ex_asg, M_ex_par, M_ex_mov, M_ex_aug, M_ex_sIx, M_ex_sAt, M_ex_augIx, M_ex_augAt, M_ex_exp, M_ex_app, M_ex_ext, M_ex_ins, M_ex_iff, M_ex_whl, M_ex_for_, M_ex_forO, M_ex_ret, M_ex_retM, M_ex_retN, M_ex_brk, M_ex_cnt, M_ex_pass, M_ex_rais, M_ex_stk, M_ex_tr, M_exs_nil, M_exs_cons, M_exh_nil, M_exh_cons, List.length_cons, List.length_nil, Nat.zero_add, Nat.reduceAdd, Nat.reduceSub, Nat.reduceLeDiff, Nat.reduceLT, if_pos, List.map_cons, List.map_nil, rb_ok, rb_none, ob_some, ob_none, sGet, List.cons_append, List.nil_append, List.replicate, cmpH, peek, look, peekV, vals_map, fzL_map, vals, cmpD, fits, fit, fitL, eqv, lf, truV, blOf, Bool.false_eq_true, if_false, if_true, List.set, asgH, esc, put, setP, getP, fz, fzL, asgH.lf', asgD, asgNs, biH, peeks, biD, lenV, newH, binH, binD, ixH, subH, toSV, toSVs, setSVs, okS, setH, setV, isOl, appH, fin_next, fin_ret, outsOf, callH, handArgs, handed, noTwice, backArgs, retH_val, retH_ol, retH_od, retH_oi, List.headD_cons, List.tail_cons, List.headD_nil, List.tail_nil, seqOf, decide_true, decide_false, Bool.and_self, Bool.true_and, Bool.and_true, Bool.false_and, Bool.and_false, Bool.not_true, Bool.not_false, Bool.or_true, Bool.or_false, Bool.true_or, Bool.false_or, List.isEmpty_cons, List.isEmpty_nil, reduceCtorEq, List.contains_nil, List.contains_cons, Nat.reduceBEq, sizeOk, atI_c0, atI_c1, atI_c2, atI_c3, atI_c4, slcD, cut_1, intOf, ix_30, ix_31, ix_32, isTy, List.any_cons, List.any_nil, isNon, isNonV, List.length_map, augD, List.getElem?_cons_zero, List.getElem?_cons_succ, Int.reduceLT, ix_10, ix_1m, ix_20, ix_21, ix_2m, ix_3m, ix_40, ix_41, ix_42, ix_43, ix_4m, ix_50, ix_51, ix_52, ix_53, ix_54, ix_5m, ix_60, ix_61, ix_62, ix_63, ix_64, ix_65, ix_6m, ix_70, ix_71, ix_72, ix_73, ix_74, ix_75, ix_76, ix_7m, ix_80, ix_81, ix_82, ix_83, ix_84, ix_85, ix_86, ix_87, ix_8m, rf0, rf1, rf2, rf3, rf4, rf5, rf6, rf7, rf8, rf9, rf10, rf11, rf12, rf13, rf14, rf15, rf16, rf17, rf18, rf19, rf20, rf21, rf22, rf23, rf24, rf25, rf26, rf27, rf28, rf29, rf30, rf31, rf32, rf33, rf34, rf35, rf36, rf37, rf38, tr, backM, item, rf2, hc, e0, List.length_append, s2, List.drop_succ_cons, List.drop_zero, List.map_append, List.append_assoc]
theorem w_lback (k : Nat) (u : Trc) (z : Int) (h : u.1.length ≤ 1000) : M.call prog (k+3) 31 [.val (tr N u), .val (fr N z)] = some (.ok (.val (tr N (backM u z))) []) := by
  obtain ⟨us, ur⟩ := u
  cases us with
  | nil =>
    have hc := w_lminus k (Fc.fr N ur) (Fc.fr N z)
    have e0 : (((0 : Nat) : Int) == 0) = true := by decide
    simp -dsimp only [g31, f_law_earlier, M_run, varH_val, varH_ol, varH_od, varH_oi, M_cx_rf, M_cx_sub, M_cx_call, seqG_next, seqG_ret, seqG_brk, seqG_cnt, nox_ok, wipe, forA_some, forK_next, forK_cnt, forK_brk, forK_ret, forK_exc, whlK_next, whlK_cnt, whlK_brk, whlK_ret, whlK_exc, whlB_t, whlB_f, lcA_some, lcB_t, lcB_f, M_ev_var, M_ev_pth, M_ev_cst, M_ev_glb, M_ev_bin, M_ev_neg, M_ev_cmp, M_ev_chn, M_ev_and, M_ev_or, M_ev_not, M_ev_iff, M_ev_tup, M_ev_lst, M_ev_ix, M_ev_slc, M_ev_rev, M_ev_call, M_ev_mth, M_ev_new, M_ev_att, M_ev_bi, M_ev_isi, M_ev_isx, M_ev_dget, M_ev_dct0, M_ev_pop, M_ev_popi, M_ev_lc, M_ev_dc, M_ev_stk, M_tst_e, M_tst_and, M_tst_or, M_tst_not, M_tstO_no, M_tstO_yes, M_evs_nil, M_evs_cons, M_evD_nil, M_evD_cons, M_evO_no, M_evO_yes, M_evI_e, M_evI_r1, M_evI_r2, M_ex_asg, M_ex_par, M_ex_mov, M_ex_aug, M_ex_sIx, M_ex_sAt, M_ex_augIx, M_ex_augAt, M_ex_exp, M_ex_app, M_ex_ext, M_ex_ins, M_ex_iff, M_ex_whl, M_ex_for_, M_ex_forO, M_ex_ret, M_ex_retM, M_ex_retN, M_ex_brk, M_ex_cnt, M_ex_pass, M_ex_rais, M_ex_stk, M_ex_tr, M_exs_nil, M_exs_cons, M_exh_nil, M_exh_cons, List.length_cons, List.length_nil, Nat.zero_add, Nat.reduceAdd, Nat.reduceSub, Nat.reduceLeDiff, Nat.reduceLT, if_pos, List.map_cons, List.map_nil, rb_ok, rb_none, ob_some, ob_none, sGet, List.cons_append, List.nil_append, List.replicate, cmpH, peek, look, peekV, vals_map, fzL_map, vals, cmpD, fits, fit, fitL, eqv, lf, truV, blOf, Bool.false_eq_true, if_false, if_true, List.set, asgH, esc, put, setP, getP, fz, fzL, asgH.lf', asgD, asgNs, biH, peeks, biD, lenV, newH, binH, binD, ixH, subH, toSV, toSVs, setSVs, okS, setH, setV, isOl, appH, fin_next, fin_ret, outsOf, callH, handArgs, handed, noTwice, backArgs, retH_val, retH_ol, retH_od, retH_oi, List.headD_cons, List.tail_cons, List.headD_nil, List.tail_nil, seqOf, decide_true, decide_false, Bool.and_self, Bool.true_and, Bool.and_true, Bool.false_and, Bool.and_false, Bool.not_true, Bool.not_false, Bool.or_true, Bool.or_false, Bool.true_or, Bool.false_or, List.isEmpty_cons, List.isEmpty_nil, reduceCtorEq, List.contains_nil, List.contains_cons, Nat.reduceBEq, sizeOk, atI_c0, atI_c1, atI_c2, atI_c3, atI_c4, slcD, cut_1, intOf, ix_30, ix_31, ix_32, isTy, List.any_cons, List.any_nil, isNon, isNonV, List.length_map, augD, List.getElem?_cons_zero, List.getElem?_cons_succ, Int.reduceLT, ix_10, ix_1m, ix_20, ix_21, ix_2m, ix_3m, ix_40, ix_41, ix_42, ix_43, ix_4m, ix_50, ix_51, ix_52, ix_53, ix_54, ix_5m, ix_60, ix_61, ix_62, ix_63, ix_64, ix_65, ix_6m, ix_70, ix_71, ix_72, ix_73, ix_74, ix_75, ix_76, ix_7m, ix_80, ix_81, ix_82, ix_83, ix_84, ix_85, ix_86, ix_87, ix_8m, rf0, rf1, rf2, rf3, rf4, rf5, rf6, rf7, rf8, rf9, rf10, rf11, rf12, rf13, rf14, rf15, rf16, rf17, rf18, rf19, rf20, rf21, rf22, rf23, rf24, rf25, rf26, rf27, rf28, rf29, rf30, rf31, rf32, rf33, rf34, rf35, rf36, rf37, rf38, tr, backM, rf19, hc, e0]
  | cons p r =>
    have hc := w_lminus k (Fc.fr N p.1) (Fc.fr N z)
    have e0 : (((r.length + 1 : Nat) : Int) == 0) = false := len_eq0 (by omega)
    simp only [List.length_cons] at h
    have s2 : (1 + r.length ≤ 16777216) := by omega
    simp -dsimp only [g31, f_law_earlier, M_run, varH_val, varH_ol, varH_od, varH_oi, M_cx_rf, M_cx_sub, M_cx_call, seqG_next, seqG_ret, seqG_brk, seqG_cnt, nox_ok, wipe, forA_some, forK_next, forK_cnt, forK_brk, forK_ret, forK_exc, whlK_next, whlK_cnt, whlK_brk, whlK_ret, whlK_exc, whlB_t, whlB_f, lcA_some, lcB_t, lcB_f, M_ev_var, M_ev_pth, M_ev_cst, M_ev_glb, M_ev_bin, M_ev_neg, M_ev_cmp, M_ev_chn, M_ev_and, M_ev_or, M_ev_not, M_ev_iff, M_ev_tup, M_ev_lst, M_ev_ix, M_ev_slc, M_ev_rev, M_ev_call, M_ev_mth, M_ev_new, M_ev_att, M_ev_bi, M_ev_isi, M_ev_isx, M_ev_dget, M_ev_dct0, M_ev_pop, M_ev_popi, M_ev_lc, M_ev_dc, M_ev_stk, M_tst_e, M_tst_and, M_tst_or, M_tst_not, M_tstO_no, M_tstO_yes, M_evs_nil, M_evs_cons, M_evD_nil, M_evD_cons, M_evO_no, M_evO_yes, M_evI_e, M_evI_r1, M_evI_r2, M_ex_asg, M_ex_par, M_ex_mov, M_ex_aug, M_ex_sIx, M_ex_sAt, M_ex_augIx, M_ex_augAt, M_ex_exp, M_ex_app, M_ex_ext, M_ex_ins, M_ex_iff, M_ex_whl, M_ex_for_, M_ex_forO, M_ex_ret, M_ex_retM, M_ex_retN, M_ex_brk, M_ex_cnt, M_ex_pass, M_ex_rais, M_ex_stk, M_ex_tr, M_exs_nil, M_exs_cons, M_exh_nil, M_exh_cons, List.length_cons, List.length_nil, Nat.zero_add, Nat.reduceAdd, Nat.reduceSub, Nat.reduceLeDiff, Nat.reduceLT, if_pos, List.map_cons, List.map_nil, rb_ok, rb_none, ob_some, ob_none, sGet, List.cons_append, List.nil_append, List.replicate, cmpH, peek, look, peekV, vals_map, fzL_map, vals, cmpD, fits, fit, fitL, eqv, lf, truV, blOf, Bool.false_eq_true, if_false, if_true, List.set, asgH, esc, put, setP, getP, fz, fzL, asgH.lf', asgD, asgNs, biH, peeks, biD, lenV, newH, binH, binD, ixH, subH, toSV, toSVs, setSVs, okS, setH, setV, isOl, appH, fin_next, fin_ret, outsOf, callH, handArgs, handed, noTwice, backArgs, retH_val, retH_ol, retH_od, retH_oi, List.headD_cons, List.tail_cons, List.headD_nil, List.tail_nil, seqOf, decide_true, decide_false, Bool.and_self, Bool.true_and, Bool.and_true, Bool.false_and, Bool.and_false, Bool.not_true, Bool.not_false, Bool.or_true, Bool.or_false, Bool.true_or, Bool.false_or, List.isEmpty_cons, List.isEmpty_nil, reduceCtorEq, List.contains_nil, List.contains_cons, Nat.reduceBEq, sizeOk, atI_c0, atI_c1, atI_c2, atI_c3, atI_c4, slcD, cut_1, intOf, ix_30, ix_31, ix_32, isTy, List.any_cons, List.any_nil, isNon, isNonV, List.length_map, augD, List.getElem?_cons_zero, List.getElem?_cons_succ, Int.reduceLT, ix_10, ix_1m, ix_20, ix_21, ix_2m, ix_3m, ix_40, ix_41, ix_42, ix_43, ix_4m, ix_50, ix_51, ix_52, ix_53, ix_54, ix_5m, ix_60, ix_61, ix_62, ix_63, ix_64, ix_65, ix_6m, ix_70, ix_71, ix_72, ix_73, ix_74, ix_75, ix_76, ix_7m, ix_80, ix_81, ix_82, ix_83, ix_84, ix_85, ix_86, ix_87, ix_8m, rf0, rf1, rf2, rf3, rf4, rf5, rf6, rf7, rf8, rf9, rf10, rf11, rf12, rf13, rf14, rf15, rf16, rf17, rf18, rf19, rf20, rf21, rf22, rf23, rf24, rf25, rf26, rf27, rf28, rf29, rf30, rf31, rf32, rf33, rf34, rf35, rf36, rf37, rf38, tr, backM, item, rf19, hc, e0, List.length_append, s2, List.drop_succ_cons, List.drop_zero, List.map_append, List.append_assoc]
/-! ### the common head -/
/-- marks that may be compared -/
def okI (p : Int × D) : Prop := fit p.2 63 = true
def eqi (p q : Int × D) : Bool := p.1 == q.1 && eqv p.2 q.2
theorem eqi_item (p q : Int × D) : eqv (item N p) (item N q) = eqi p q := by
  have e : (fn_ N p.1 == fn_ N q.1 && fd_ N p.1 == fd_ N q.1) = (p.1 == q.1) := by
    by_cases h : p.1 = q.1
    · simp [h]
    · have : ¬ (fn_ N p.1 = fn_ N q.1 ∧ fd_ N p.1 = fd_ N q.1) := fun z => h (fr_inj z.1 z.2)
      have h2 : (p.1 == q.1) = false := by simp [h]
      rw [h2]
      by_cases z : fn_ N p.1 = fn_ N q.1
      · have q : ¬ fd_ N p.1 = fd_ N q.1 := fun y => this ⟨z, y⟩
        simp [q]
      · simp [z]
  simp only [item, fr, eqv, eqvL, Bool.and_true, e, eqi]
def cp : List (Int × D) → List (Int × D) → Nat
  | x :: xs, y :: ys => if eqi x y = true then cp xs ys + 1 else 0
  | _, _ => 0
theorem fits_item {p : Int × D} (h : okI p) : fit (item N p) 64 = true := by
  unfold okI at h
  simp [item, fit, fitL, fr, h]
abbrev cCp : T := (.and (.e (.cmp .lt (.var 2) (.bi .len (.cons (.ix (.var 0) (.cst (.int 0))) .nil)))) (.and (.e (.cmp .lt (.var 2) (.bi .len (.cons (.ix (.var 1) (.cst (.int 0))) .nil)))) (.e (.cmp .eq (.ix (.ix (.var 0) (.cst (.int 0))) (.var 2)) (.ix (.ix (.var 1) (.cst (.int 0))) (.var 2))))))
theorem cp_loop (C : Cxt) (us vs : List (Int × D)) (ru rv : D) (hu : ∀ p ∈ us, okI p) (hv : ∀ p ∈ vs, okI p) : ∀ (m i : Nat), us.length - i = m → i ≤ us.length → i ≤ vs.length →
    M.whl C cCp (.cons (.aug 2 .add (.cst (.int 1))) .nil) [some (.val (.tup [.tup (us.map (item N)), ru])), some (.val (.tup [.tup (vs.map (item N)), rv])), some (.val (.int i))] =
      some (.ok .next [some (.val (.tup [.tup (us.map (item N)), ru])), some (.val (.tup [.tup (vs.map (item N)), rv])), some (.val (.int ((i + cp (us.drop i) (vs.drop i) : Nat) : Int)))]) := by
  intro m
  induction m with
  | zero =>
    intro i hm h1 h2
    have hi : i = us.length := by omega
    have e1 : decide ((i : Int) < (us.length : Int)) = false := by simp; omega
    have e2 : us.drop i = [] := List.drop_eq_nil_of_le (by omega)
    rw [M_whl, e2]
    simp -dsimp only [M_run, varH_val, varH_ol, varH_od, varH_oi, M_cx_rf, M_cx_sub, M_cx_call, seqG_next, seqG_ret, seqG_brk, seqG_cnt, nox_ok, wipe, forA_some, forK_next, forK_cnt, forK_brk, forK_ret, forK_exc, whlK_next, whlK_cnt, whlK_brk, whlK_ret, whlK_exc, whlB_t, whlB_f, lcA_some, lcB_t, lcB_f, M_ev_var, M_ev_pth, M_ev_cst, M_ev_glb, M_ev_bin, M_ev_neg, M_ev_cmp, M_ev_chn, M_ev_and, M_ev_or, M_ev_not, M_ev_iff, M_ev_tup, M_ev_lst, M_ev_ix, M_ev_slc, M_ev_rev, M_ev_call, M_ev_mth, M_ev_new, M_ev_att, M_ev_bi, M_ev_isi, M_ev_isx, M_ev_dget, M_ev_dct0, M_ev_pop, M_ev_popi, M_ev_lc, M_ev_dc, M_ev_stk, M_tst_e, M_tst_and, M_tst_or, M_tst_not, M_tstO_no, M_tstO_yes, M_evs_nil, M_evs_cons, M_evD_nil, M_evD_cons, M_evO_no, M_evO_yes, M_evI_e, M_evI_r1, M_evI_r2, M_ex_asg, M_ex_par, M_ex_mov, M_ex_aug, M_ex_sIx, M_ex_sAt, M_ex_augIx, M_ex_augAt, M_ex_exp, M_ex_app, M_ex_ext, M_ex_ins, M_ex_iff, M_ex_whl, M_ex_for_, M_ex_forO, M_ex_ret, M_ex_retM, M_ex_retN, M_ex_brk, M_ex_cnt, M_ex_pass, M_ex_rais, M_ex_stk, M_ex_tr, M_exs_nil, M_exs_cons, M_exh_nil, M_exh_cons, List.length_cons, List.length_nil, Nat.zero_add, Nat.reduceAdd, Nat.reduceSub, Nat.reduceLeDiff, Nat.reduceLT, if_pos, List.map_cons, List.map_nil, rb_ok, rb_none, ob_some, ob_none, sGet, List.cons_append, List.nil_append, List.replicate, cmpH, peek, look, peekV, vals_map, fzL_map, vals, cmpD, fits, fit, fitL, eqv, lf, truV, blOf, Bool.false_eq_true, if_false, if_true, List.set, asgH, esc, put, setP, getP, fz, fzL, asgH.lf', asgD, asgNs, biH, peeks, biD, lenV, newH, binH, binD, ixH, subH, toSV, toSVs, setSVs, okS, setH, setV, isOl, appH, fin_next, fin_ret, outsOf, callH, handArgs, handed, noTwice, backArgs, retH_val, retH_ol, retH_od, retH_oi, List.headD_cons, List.tail_cons, List.headD_nil, List.tail_nil, seqOf, decide_true, decide_false, Bool.and_self, Bool.true_and, Bool.and_true, Bool.false_and, Bool.and_false, Bool.not_true, Bool.not_false, Bool.or_true, Bool.or_false, Bool.true_or, Bool.false_or, List.isEmpty_cons, List.isEmpty_nil, reduceCtorEq, List.contains_nil, List.contains_cons, Nat.reduceBEq, sizeOk, atI_c0, atI_c1, atI_c2, atI_c3, atI_c4, slcD, cut_1, intOf, ix_30, ix_31, ix_32, isTy, List.any_cons, List.any_nil, isNon, isNonV, List.length_map, augD, List.getElem?_cons_zero, List.getElem?_cons_succ, Int.reduceLT, ix_10, ix_1m, ix_20, ix_21, ix_2m, ix_3m, ix_40, ix_41, ix_42, ix_43, ix_4m, ix_50, ix_51, ix_52, ix_53, ix_54, ix_5m, ix_60, ix_61, ix_62, ix_63, ix_64, ix_65, ix_6m, ix_70, ix_71, ix_72, ix_73, ix_74, ix_75, ix_76, ix_7m, ix_80, ix_81, ix_82, ix_83, ix_84, ix_85, ix_86, ix_87, ix_8m, rf0, rf1, rf2, rf3, rf4, rf5, rf6, rf7, rf8, rf9, rf10, rf11, rf12, rf13, rf14, rf15, rf16, rf17, rf18, rf19, rf20, rf21, rf22, rf23, rf24, rf25, rf26, rf27, rf28, rf29, rf30, rf31, rf32, rf33, rf34, rf35, rf36, rf37, rf38, e1, cp, Nat.add_zero]
  | succ m ih =>
    intro i hm h1 h2
    have hi : i < us.length := by omega
    have e1 : decide ((i : Int) < (us.length : Int)) = true := by simp; omega
    have eu : us.drop i = us[i] :: us.drop (i + 1) := List.drop_eq_getElem_cons hi
    have a1 : atI (us.map (item N)) (i : Int) = some (item N us[i]) := by rw [atI_nat, List.getElem?_map, List.getElem?_eq_getElem hi]; rfl
    by_cases hj : i < vs.length
    · have e2 : decide ((i : Int) < (vs.length : Int)) = true := by simp; omega
      have ev' : vs.drop i = vs[i] :: vs.drop (i + 1) := List.drop_eq_getElem_cons hj
      have a2 : atI (vs.map (item N)) (i : Int) = some (item N vs[i]) := by rw [atI_nat, List.getElem?_map, List.getElem?_eq_getElem hj]; rfl
      have f1 := fits_item (N := N) (hu us[i] (List.getElem_mem hi))
      have f2 := fits_item (N := N) (hv vs[i] (List.getElem_mem hj))
      rw [M_whl, eu, ev']
      cases q : eqi us[i] vs[i] with
      | true =>
        have q' : eqv (item N us[i]) (item N vs[i]) = true := (eqi_item _ _).trans q
        have ih' := ih (i + 1) (by omega) (by omega) (by omega)
        have c1 : ((i : Int) + 1) = ((i + 1 : Nat) : Int) := by omega
        have c2 : i + (cp (us.drop (i + 1)) (vs.drop (i + 1)) + 1) = i + 1 + cp (us.drop (i + 1)) (vs.drop (i + 1)) := by omega
        simp -dsimp only [M_run, varH_val, varH_ol, varH_od, varH_oi, M_cx_rf, M_cx_sub, M_cx_call, seqG_next, seqG_ret, seqG_brk, seqG_cnt, nox_ok, wipe, forA_some, forK_next, forK_cnt, forK_brk, forK_ret, forK_exc, whlK_next, whlK_cnt, whlK_brk, whlK_ret, whlK_exc, whlB_t, whlB_f, lcA_some, lcB_t, lcB_f, M_ev_var, M_ev_pth, M_ev_cst, M_ev_glb, M_ev_bin, M_ev_neg, M_ev_cmp, M_ev_chn, M_ev_and, M_ev_or, M_ev_not, M_ev_iff, M_ev_tup, M_ev_lst, M_ev_ix, M_ev_slc, M_ev_rev, M_ev_call, M_ev_mth, M_ev_new, M_ev_att, M_ev_bi, M_ev_isi, M_ev_isx, M_ev_dget, M_ev_dct0, M_ev_pop, M_ev_popi, M_ev_lc, M_ev_dc, M_ev_stk, M_tst_e, M_tst_and, M_tst_or, M_tst_not, M_tstO_no, M_tstO_yes, M_evs_nil, M_evs_cons, M_evD_nil, M_evD_cons, M_evO_no, M_evO_yes, M_evI_e, M_evI_r1, M_evI_r2, M_ex_asg, M_ex_par, M_ex_mov, M_ex_aug, M_ex_sIx, M_ex_sAt, M_ex_augIx, M_ex_augAt, M_ex_exp, M_ex_app, M_ex_ext, M_ex_ins, M_ex_iff, M_ex_whl, M_ex_for_, M_ex_forO, M_ex_ret, M_ex_retM, M_ex_retN, M_ex_brk, M_ex_cnt, M_ex_pass, M_ex_rais, M_ex_stk, M_ex_tr, M_exs_nil, M_exs_cons, M_exh_nil, M_exh_cons, List.length_cons, List.length_nil, Nat.zero_add, Nat.reduceAdd, Nat.reduceSub, Nat.reduceLeDiff, Nat.reduceLT, if_pos, List.map_cons, List.map_nil, rb_ok, rb_none, ob_some, ob_none, sGet, List.cons_append, List.nil_append, List.replicate, cmpH, peek, look, peekV, vals_map, fzL_map, vals, cmpD, fits, fit, fitL, eqv, lf, truV, blOf, Bool.false_eq_true, if_false, if_true, List.set, asgH, esc, put, setP, getP, fz, fzL, asgH.lf', asgD, asgNs, biH, peeks, biD, lenV, newH, binH, binD, ixH, subH, toSV, toSVs, setSVs, okS, setH, setV, isOl, appH, fin_next, fin_ret, outsOf, callH, handArgs, handed, noTwice, backArgs, retH_val, retH_ol, retH_od, retH_oi, List.headD_cons, List.tail_cons, List.headD_nil, List.tail_nil, seqOf, decide_true, decide_false, Bool.and_self, Bool.true_and, Bool.and_true, Bool.false_and, Bool.and_false, Bool.not_true, Bool.not_false, Bool.or_true, Bool.or_false, Bool.true_or, Bool.false_or, List.isEmpty_cons, List.isEmpty_nil, reduceCtorEq, List.contains_nil, List.contains_cons, Nat.reduceBEq, sizeOk, atI_c0, atI_c1, atI_c2, atI_c3, atI_c4, slcD, cut_1, intOf, ix_30, ix_31, ix_32, isTy, List.any_cons, List.any_nil, isNon, isNonV, List.length_map, augD, List.getElem?_cons_zero, List.getElem?_cons_succ, Int.reduceLT, ix_10, ix_1m, ix_20, ix_21, ix_2m, ix_3m, ix_40, ix_41, ix_42, ix_43, ix_4m, ix_50, ix_51, ix_52, ix_53, ix_54, ix_5m, ix_60, ix_61, ix_62, ix_63, ix_64, ix_65, ix_6m, ix_70, ix_71, ix_72, ix_73, ix_74, ix_75, ix_76, ix_7m, ix_80, ix_81, ix_82, ix_83, ix_84, ix_85, ix_86, ix_87, ix_8m, rf0, rf1, rf2, rf3, rf4, rf5, rf6, rf7, rf8, rf9, rf10, rf11, rf12, rf13, rf14, rf15, rf16, rf17, rf18, rf19, rf20, rf21, rf22, rf23, rf24, rf25, rf26, rf27, rf28, rf29, rf30, rf31, rf32, rf33, rf34, rf35, rf36, rf37, rf38, e1, e2, a1, a2, f1, f2, q', cp, q, whlK_next, c1, ih', c2]
      | false =>
        have q' : eqv (item N us[i]) (item N vs[i]) = false := (eqi_item _ _).trans q
        simp -dsimp only [M_run, varH_val, varH_ol, varH_od, varH_oi, M_cx_rf, M_cx_sub, M_cx_call, seqG_next, seqG_ret, seqG_brk, seqG_cnt, nox_ok, wipe, forA_some, forK_next, forK_cnt, forK_brk, forK_ret, forK_exc, whlK_next, whlK_cnt, whlK_brk, whlK_ret, whlK_exc, whlB_t, whlB_f, lcA_some, lcB_t, lcB_f, M_ev_var, M_ev_pth, M_ev_cst, M_ev_glb, M_ev_bin, M_ev_neg, M_ev_cmp, M_ev_chn, M_ev_and, M_ev_or, M_ev_not, M_ev_iff, M_ev_tup, M_ev_lst, M_ev_ix, M_ev_slc, M_ev_rev, M_ev_call, M_ev_mth, M_ev_new, M_ev_att, M_ev_bi, M_ev_isi, M_ev_isx, M_ev_dget, M_ev_dct0, M_ev_pop, M_ev_popi, M_ev_lc, M_ev_dc, M_ev_stk, M_tst_e, M_tst_and, M_tst_or, M_tst_not, M_tstO_no, M_tstO_yes, M_evs_nil, M_evs_cons, M_evD_nil, M_evD_cons, M_evO_no, M_evO_yes, M_evI_e, M_evI_r1, M_evI_r2, M_ex_asg, M_ex_par, M_ex_mov, M_ex_aug, M_ex_sIx, M_ex_sAt, M_ex_augIx, M_ex_augAt, M_ex_exp, M_ex_app, M_ex_ext, M_ex_ins, M_ex_iff, M_ex_whl, M_ex_for_, M_ex_forO, M_ex_ret, M_ex_retM, M_ex_retN, M_ex_brk, M_ex_cnt, M_ex_pass, M_ex_rais, M_ex_stk, M_ex_tr, M_exs_nil, M_exs_cons, M_exh_nil, M_exh_cons, List.length_cons, List.length_nil, Nat.zero_add, Nat.reduceAdd, Nat.reduceSub, Nat.reduceLeDiff, Nat.reduceLT, if_pos, List.map_cons, List.map_nil, rb_ok, rb_none, ob_some, ob_none, sGet, List.cons_append, List.nil_append, List.replicate, cmpH, peek, look, peekV, vals_map, fzL_map, vals, cmpD, fits, fit, fitL, eqv, lf, truV, blOf, Bool.false_eq_true, if_false, if_true, List.set, asgH, esc, put, setP, getP, fz, fzL, asgH.lf', asgD, asgNs, biH, peeks, biD, lenV, newH, binH, binD, ixH, subH, toSV, toSVs, setSVs, okS, setH, setV, isOl, appH, fin_next, fin_ret, outsOf, callH, handArgs, handed, noTwice, backArgs, retH_val, retH_ol, retH_od, retH_oi, List.headD_cons, List.tail_cons, List.headD_nil, List.tail_nil, seqOf, decide_true, decide_false, Bool.and_self, Bool.true_and, Bool.and_true, Bool.false_and, Bool.and_false, Bool.not_true, Bool.not_false, Bool.or_true, Bool.or_false, Bool.true_or, Bool.false_or, List.isEmpty_cons, List.isEmpty_nil, reduceCtorEq, List.contains_nil, List.contains_cons, Nat.reduceBEq, sizeOk, atI_c0, atI_c1, atI_c2, atI_c3, atI_c4, slcD, cut_1, intOf, ix_30, ix_31, ix_32, isTy, List.any_cons, List.any_nil, isNon, isNonV, List.length_map, augD, List.getElem?_cons_zero, List.getElem?_cons_succ, Int.reduceLT, ix_10, ix_1m, ix_20, ix_21, ix_2m, ix_3m, ix_40, ix_41, ix_42, ix_43, ix_4m, ix_50, ix_51, ix_52, ix_53, ix_54, ix_5m, ix_60, ix_61, ix_62, ix_63, ix_64, ix_65, ix_6m, ix_70, ix_71, ix_72, ix_73, ix_74, ix_75, ix_76, ix_7m, ix_80, ix_81, ix_82, ix_83, ix_84, ix_85, ix_86, ix_87, ix_8m, rf0, rf1, rf2, rf3, rf4, rf5, rf6, rf7, rf8, rf9, rf10, rf11, rf12, rf13, rf14, rf15, rf16, rf17, rf18, rf19, rf20, rf21, rf22, rf23, rf24, rf25, rf26, rf27, rf28, rf29, rf30, rf31, rf32, rf33, rf34, rf35, rf36, rf37, rf38, e1, e2, a1, a2, f1, f2, q', cp, q, Nat.add_zero]
    · have e2 : decide ((i : Int) < (vs.length : Int)) = false := by simp; omega
      have ev' : vs.drop i = [] := List.drop_eq_nil_of_le (by omega)
      rw [M_whl, eu, ev']
      simp -dsimp only [M_run, varH_val, varH_ol, varH_od, varH_oi, M_cx_rf, M_cx_sub, M_cx_call, seqG_next, seqG_ret, seqG_brk, seqG_cnt, nox_ok, wipe, forA_some, forK_next, forK_cnt, forK_brk, forK_ret, forK_exc, whlK_next, whlK_cnt, whlK_brk, whlK_ret, whlK_exc, whlB_t, whlB_f, lcA_some, lcB_t, lcB_f, M_ev_var, M_ev_pth, M_ev_cst, M_ev_glb, M_ev_bin, M_ev_neg, M_ev_cmp, M_ev_chn, M_ev_and, M_ev_or, M_ev_not, M_ev_iff, M_ev_tup, M_ev_lst, M_ev_ix, M_ev_slc, M_ev_rev, M_ev_call, M_ev_mth, M_ev_new, M_ev_att, M_ev_bi, M_ev_isi, M_ev_isx, M_ev_dget, M_ev_dct0, M_ev_pop, M_ev_popi, M_ev_lc, M_ev_dc, M_ev_stk, M_tst_e, M_tst_and, M_tst_or, M_tst_not, M_tstO_no, M_tstO_yes, M_evs_nil, M_evs_cons, M_evD_nil, M_evD_cons, M_evO_no, M_evO_yes, M_evI_e, M_evI_r1, M_evI_r2, M_ex_asg, M_ex_par, M_ex_mov, M_ex_aug, M_ex_sIx, M_ex_sAt, M_ex_augIx, M_ex_augAt, M_ex_exp, M_ex_app, M_ex_ext, M_ex_ins, M_ex_iff, M_ex_whl, M_ex_for_, M_ex_forO, M_ex_ret, M_ex_retM, M_ex_retN, M_ex_brk, M_ex_cnt, M_ex_pass, M_ex_rais, M_ex_stk, M_ex_tr, M_exs_nil, M_exs_cons, M_exh_nil, M_exh_cons, List.length_cons, List.length_nil, Nat.zero_add, Nat.reduceAdd, Nat.reduceSub, Nat.reduceLeDiff, Nat.reduceLT, if_pos, List.map_cons, List.map_nil, rb_ok, rb_none, ob_some, ob_none, sGet, List.cons_append, List.nil_append, List.replicate, cmpH, peek, look, peekV, vals_map, fzL_map, vals, cmpD, fits, fit, fitL, eqv, lf, truV, blOf, Bool.false_eq_true, if_false, if_true, List.set, asgH, esc, put, setP, getP, fz, fzL, asgH.lf', asgD, asgNs, biH, peeks, biD, lenV, newH, binH, binD, ixH, subH, toSV, toSVs, setSVs, okS, setH, setV, isOl, appH, fin_next, fin_ret, outsOf, callH, handArgs, handed, noTwice, backArgs, retH_val, retH_ol, retH_od, retH_oi, List.headD_cons, List.tail_cons, List.headD_nil, List.tail_nil, seqOf, decide_true, decide_false, Bool.and_self, Bool.true_and, Bool.and_true, Bool.false_and, Bool.and_false, Bool.not_true, Bool.not_false, Bool.or_true, Bool.or_false, Bool.true_or, Bool.false_or, List.isEmpty_cons, List.isEmpty_nil, reduceCtorEq, List.contains_nil, List.contains_cons, Nat.reduceBEq, sizeOk, atI_c0, atI_c1, atI_c2, atI_c3, atI_c4, slcD, cut_1, intOf, ix_30, ix_31, ix_32, isTy, List.any_cons, List.any_nil, isNon, isNonV, List.length_map, augD, List.getElem?_cons_zero, List.getElem?_cons_succ, Int.reduceLT, ix_10, ix_1m, ix_20, ix_21, ix_2m, ix_3m, ix_40, ix_41, ix_42, ix_43, ix_4m, ix_50, ix_51, ix_52, ix_53, ix_54, ix_5m, ix_60, ix_61, ix_62, ix_63, ix_64, ix_65, ix_6m, ix_70, ix_71, ix_72, ix_73, ix_74, ix_75, ix_76, ix_7m, ix_80, ix_81, ix_82, ix_83, ix_84, ix_85, ix_86, ix_87, ix_8m, rf0, rf1, rf2, rf3, rf4, rf5, rf6, rf7, rf8, rf9, rf10, rf11, rf12, rf13, rf14, rf15, rf16, rf17, rf18, rf19, rf20, rf21, rf22, rf23, rf24, rf25, rf26, rf27, rf28, rf29, rf30, rf31, rf32, rf33, rf34, rf35, rf36, rf37, rf38, e1, e2, cp, Nat.add_zero]
theorem w_cp (k : Nat) (u v : Trc) (hu : ∀ p ∈ u.1, okI p) (hv : ∀ p ∈ v.1, okI p) : M.call prog (k+1) 11 [.val (tr N u), .val (tr N v)] = some (.ok (.val (.int (cp u.1 v.1 : Nat))) []) := by
  have h := cp_loop (N := N) (M.cx prog k) u.1 v.1 (fr N u.2) (fr N v.2) hu hv _ 0 rfl (by omega) (by omega)
  rw [List.drop_zero, List.drop_zero, Nat.zero_add] at h
  have h : M.whl (M.cx prog k) cCp (.cons (.aug 2 .add (.cst (.int 1))) .nil) [some (.val (.tup [.tup (u.1.map (item N)), fr N u.2])), some (.val (.tup [.tup (v.1.map (item N)), fr N v.2])), some (.val (.int 0))] = _ := h
  simp -dsimp only [g11, f_common_count, M_run, varH_val, varH_ol, varH_od, varH_oi, M_cx_rf, M_cx_sub, M_cx_call, seqG_next, seqG_ret, seqG_brk, seqG_cnt, nox_ok, wipe, forA_some, forK_next, forK_cnt, forK_brk, forK_ret, forK_exc, whlK_next, whlK_cnt, whlK_brk, whlK_ret, whlK_exc, whlB_t, whlB_f, lcA_some, lcB_t, lcB_f, M_ev_var, M_ev_pth, M_ev_cst, M_ev_glb, M_ev_bin, M_ev_neg, M_ev_cmp, M_ev_chn, M_ev_and, M_ev_or, M_ev_not, M_ev_iff, M_ev_tup, M_ev_lst, M_ev_ix, M_ev_slc, M_ev_rev, M_ev_call, M_ev_mth, M_ev_new, M_ev_att, M_ev_bi, M_ev_isi, M_ev_isx, M_ev_dget, M_ev_dct0, M_ev_pop, M_ev_popi, M_ev_lc, M_ev_dc, M_ev_stk, M_tst_e, M_tst_and, M_tst_or, M_tst_not, M_tstO_no, M_tstO_yes, M_evs_nil, M_evs_cons, M_evD_nil, M_evD_cons, M_evO_no, M_evO_yes, M_evI_e, M_evI_r1, M_evI_r2, M_ex_asg, M_ex_par, M_ex_mov, M_ex_aug, M_ex_sIx, M_ex_sAt, M_ex_augIx, M_ex_augAt, M_ex_exp, M_ex_app, M_ex_ext, M_ex_ins, M_ex_iff, M_ex_whl, M_ex_for_, M_ex_forO, M_ex_ret, M_ex_retM, M_ex_retN, M_ex_brk, M_ex_cnt, M_ex_pass, M_ex_rais, M_ex_stk, M_ex_tr, M_exs_nil, M_exs_cons, M_exh_nil, M_exh_cons, List.length_cons, List.length_nil, Nat.zero_add, Nat.reduceAdd, Nat.reduceSub, Nat.reduceLeDiff, Nat.reduceLT, if_pos, List.map_cons, List.map_nil, rb_ok, rb_none, ob_some, ob_none, sGet, List.cons_append, List.nil_append, List.replicate, cmpH, peek, look, peekV, vals_map, fzL_map, vals, cmpD, fits, fit, fitL, eqv, lf, truV, blOf, Bool.false_eq_true, if_false, if_true, List.set, asgH, esc, put, setP, getP, fz, fzL, asgH.lf', asgD, asgNs, biH, peeks, biD, lenV, newH, binH, binD, ixH, subH, toSV, toSVs, setSVs, okS, setH, setV, isOl, appH, fin_next, fin_ret, outsOf, callH, handArgs, handed, noTwice, backArgs, retH_val, retH_ol, retH_od, retH_oi, List.headD_cons, List.tail_cons, List.headD_nil, List.tail_nil, seqOf, decide_true, decide_false, Bool.and_self, Bool.true_and, Bool.and_true, Bool.false_and, Bool.and_false, Bool.not_true, Bool.not_false, Bool.or_true, Bool.or_false, Bool.true_or, Bool.false_or, List.isEmpty_cons, List.isEmpty_nil, reduceCtorEq, List.contains_nil, List.contains_cons, Nat.reduceBEq, sizeOk, atI_c0, atI_c1, atI_c2, atI_c3, atI_c4, slcD, cut_1, intOf, ix_30, ix_31, ix_32, isTy, List.any_cons, List.any_nil, isNon, isNonV, List.length_map, augD, List.getElem?_cons_zero, List.getElem?_cons_succ, Int.reduceLT, ix_10, ix_1m, ix_20, ix_21, ix_2m, ix_3m, ix_40, ix_41, ix_42, ix_43, ix_4m, ix_50, ix_51, ix_52, ix_53, ix_54, ix_5m, ix_60, ix_61, ix_62, ix_63, ix_64, ix_65, ix_6m, ix_70, ix_71, ix_72, ix_73, ix_74, ix_75, ix_76, ix_7m, ix_80, ix_81, ix_82, ix_83, ix_84, ix_85, ix_86, ix_87, ix_8m, rf0, rf1, rf2, rf3, rf4, rf5, rf6, rf7, rf8, rf9, rf10, rf11, rf12, rf13, rf14, rf15, rf16, rf17, rf18, rf19, rf20, rf21, rf22, rf23, rf24, rf25, rf26, rf27, rf28, rf29, rf30, rf31, rf32, rf33, rf34, rf35, rf36, rf37, rf38, tr, h]
end
end K89
end

section
set_option maxRecDepth 100000
set_option Elab.async false
set_option linter.all false
/-! W5: walks: leads. -/
namespace K89
open Pv
section
variable {N : Int} [hN : Nice N]
def leadM (u v : Trc) : Option (Trc × Trc) :=
  match v.1.drop (cp u.1 v.1), u.1.drop (cp u.1 v.1) with
  | [], a => some (backM (a, u.2) v.2, ([], 0))
  | b, [] => some (([], 0), backM (b, v.2) u.2)
  | _ :: _, _ :: _ => none
def ldD (N : Int) : Option (Trc × Trc) → D
  | none => .non
  | some (a, b) => .tup [tr N a, tr N b]
theorem tr_e : tr N ([], 0) = .tup [.tup [], .tup [.int 0, .int 1]] := by
  unfold tr
  rw [fr_0]
  rfl
theorem drop_len {us : List (Int × D)} {c : Nat} (h : us.length ≤ 1000) : (us.drop c).length ≤ 1000 := by rw [List.length_drop]; omega
theorem w_lead (k : Nat) (u v : Trc) (hu : ∀ p ∈ u.1, okI p) (hv : ∀ p ∈ v.1, okI p) (lu : u.1.length ≤ 1000) (lv : v.1.length ≤ 1000) : M.call prog (k+4) 12 [.val (tr N u), .val (tr N v)] = some (.ok (.val (ldD N (leadM u v))) []) := by
  have h := w_cp (N := N) (k + 2) u v hu hv
  obtain ⟨us, ur⟩ := u
  obtain ⟨vs, vr⟩ := v
  have ld := drop_len (c := cp us vs) lu
  have lw := drop_len (c := cp us vs) lv
  have hb : ∀ (A : List (Int × D)) (z w : Int), A.length ≤ 1000 → M.call prog (k+3) 10 [.val (.tup [.tup (A.map (item N)), fr N z]), .val (fr N w)] = some (.ok (.val (tr N (backM (A, z) w))) []) := fun A z w hl => w_back (N := N) k (A, z) w hl
  unfold leadM
  simp only
  generalize hA : us.drop (cp us vs) = A at *
  generalize hB : vs.drop (cp us vs) = B at *
  have e0 : ∀ n : Nat, decide ((0 : Int) < ((n + 1 : Nat) : Int)) = true := fun n => decide_eq_true (by omega)
  have e1 : decide ((0 : Int) < ((0 : Nat) : Int)) = false := by decide
  have e2 : (((0 : Nat) : Int) == 0) = true := by decide
  have e3 : ∀ n : Nat, (((n + 1 : Nat) : Int) == 0) = false := fun n => len_eq0 (by omega)
  unfold tr at h
  cases B with
  | nil =>
    have hb' := hb A ur vr ld
    cases A with
    | nil =>
      simp only [List.map_nil] at hb'
      simp -dsimp only [g12, f_lead, M_run, varH_val, varH_ol, varH_od, varH_oi, M_cx_rf, M_cx_sub, M_cx_call, seqG_next, seqG_ret, seqG_brk, seqG_cnt, nox_ok, wipe, forA_some, forK_next, forK_cnt, forK_brk, forK_ret, forK_exc, whlK_next, whlK_cnt, whlK_brk, whlK_ret, whlK_exc, whlB_t, whlB_f, lcA_some, lcB_t, lcB_f, M_ev_var, M_ev_pth, M_ev_cst, M_ev_glb, M_ev_bin, M_ev_neg, M_ev_cmp, M_ev_chn, M_ev_and, M_ev_or, M_ev_not, M_ev_iff, M_ev_tup, M_ev_lst, M_ev_ix, M_ev_slc, M_ev_rev, M_ev_call, M_ev_mth, M_ev_new, M_ev_att, M_ev_bi, M_ev_isi, M_ev_isx, M_ev_dget, M_ev_dct0, M_ev_pop, M_ev_popi, M_ev_lc, M_ev_dc, M_ev_stk, M_tst_e, M_tst_and, M_tst_or, M_tst_not, M_tstO_no, M_tstO_yes, M_evs_nil, M_evs_cons, M_evD_nil, M_evD_cons, M_evO_no, M_evO_yes, M_evI_e, M_evI_r1, M_evI_r2, M_ex_asg, M_ex_par, M_ex_mov, M_ex_aug, M_ex_sIx, M_ex_sAt, M_ex_augIx, M_ex_augAt, M_ex_exp, M_ex_app, M_ex_ext, M_ex_ins, M_ex_iff, M_ex_whl, M_ex_for_, M_ex_forO, M_ex_ret, M_ex_retM, M_ex_retN, M_ex_brk, M_ex_cnt, M_ex_pass, M_ex_rais, M_ex_stk, M_ex_tr, M_exs_nil, M_exs_cons, M_exh_nil, M_exh_cons, List.length_cons, List.length_nil, Nat.zero_add, Nat.reduceAdd, Nat.reduceSub, Nat.reduceLeDiff, Nat.reduceLT, if_pos, List.map_cons, List.map_nil, rb_ok, rb_none, ob_some, ob_none, sGet, List.cons_append, List.nil_append, List.replicate, cmpH, peek, look, peekV, vals_map, fzL_map, vals, cmpD, fits, fit, fitL, eqv, lf, truV, blOf, Bool.false_eq_true, if_false, if_true, List.set, asgH, esc, put, setP, getP, fz, fzL, asgH.lf', asgD, asgNs, biH, peeks, biD, lenV, newH, binH, binD, ixH, subH, toSV, toSVs, setSVs, okS, setH, setV, isOl, appH, fin_next, fin_ret, outsOf, callH, handArgs, handed, noTwice, backArgs, retH_val, retH_ol, retH_od, retH_oi, List.headD_cons, List.tail_cons, List.headD_nil, List.tail_nil, seqOf, decide_true, decide_false, Bool.and_self, Bool.true_and, Bool.and_true, Bool.false_and, Bool.and_false, Bool.not_true, Bool.not_false, Bool.or_true, Bool.or_false, Bool.true_or, Bool.false_or, List.isEmpty_cons, List.isEmpty_nil, reduceCtorEq, List.contains_nil, List.contains_cons, Nat.reduceBEq, sizeOk, atI_c0, atI_c1, atI_c2, atI_c3, atI_c4, slcD, cut_1, intOf, ix_30, ix_31, ix_32, isTy, List.any_cons, List.any_nil, isNon, isNonV, List.length_map, augD, List.getElem?_cons_zero, List.getElem?_cons_succ, Int.reduceLT, ix_10, ix_1m, ix_20, ix_21, ix_2m, ix_3m, ix_40, ix_41, ix_42, ix_43, ix_4m, ix_50, ix_51, ix_52, ix_53, ix_54, ix_5m, ix_60, ix_61, ix_62, ix_63, ix_64, ix_65, ix_6m, ix_70, ix_71, ix_72, ix_73, ix_74, ix_75, ix_76, ix_7m, ix_80, ix_81, ix_82, ix_83, ix_84, ix_85, ix_86, ix_87, ix_8m, rf0, rf1, rf2, rf3, rf4, rf5, rf6, rf7, rf8, rf9, rf10, rf11, rf12, rf13, rf14, rf15, rf16, rf17, rf18, rf19, rf20, rf21, rf22, rf23, rf24, rf25, rf26, rf27, rf28, rf29, rf30, rf31, rf32, rf33, rf34, rf35, rf36, rf37, rf38, tr, rf11, rf10, h, cut_from, ← List.map_drop, hA, hB, e0, e1, e2, e3, hb', ldD, fr_0]
    | cons p r =>
      simp only [List.map_cons] at hb'
      simp -dsimp only [g12, f_lead, M_run, varH_val, varH_ol, varH_od, varH_oi, M_cx_rf, M_cx_sub, M_cx_call, seqG_next, seqG_ret, seqG_brk, seqG_cnt, nox_ok, wipe, forA_some, forK_next, forK_cnt, forK_brk, forK_ret, forK_exc, whlK_next, whlK_cnt, whlK_brk, whlK_ret, whlK_exc, whlB_t, whlB_f, lcA_some, lcB_t, lcB_f, M_ev_var, M_ev_pth, M_ev_cst, M_ev_glb, M_ev_bin, M_ev_neg, M_ev_cmp, M_ev_chn, M_ev_and, M_ev_or, M_ev_not, M_ev_iff, M_ev_tup, M_ev_lst, M_ev_ix, M_ev_slc, M_ev_rev, M_ev_call, M_ev_mth, M_ev_new, M_ev_att, M_ev_bi, M_ev_isi, M_ev_isx, M_ev_dget, M_ev_dct0, M_ev_pop, M_ev_popi, M_ev_lc, M_ev_dc, M_ev_stk, M_tst_e, M_tst_and, M_tst_or, M_tst_not, M_tstO_no, M_tstO_yes, M_evs_nil, M_evs_cons, M_evD_nil, M_evD_cons, M_evO_no, M_evO_yes, M_evI_e, M_evI_r1, M_evI_r2, M_ex_asg, M_ex_par, M_ex_mov, M_ex_aug, M_ex_sIx, M_ex_sAt, M_ex_augIx, M_ex_augAt, M_ex_exp, M_ex_app, M_ex_ext, M_ex_ins, M_ex_iff, M_ex_whl, M_ex_for_, M_ex_forO, M_ex_ret, M_ex_retM, M_ex_retN, M_ex_brk, M_ex_cnt, M_ex_pass, M_ex_rais, M_ex_stk, M_ex_tr, M_exs_nil, M_exs_cons, M_exh_nil, M_exh_cons, List.length_cons, List.length_nil, Nat.zero_add, Nat.reduceAdd, Nat.reduceSub, Nat.reduceLeDiff, Nat.reduceLT, if_pos, List.map_cons, List.map_nil, rb_ok, rb_none, ob_some, ob_none, sGet, List.cons_append, List.nil_append, List.replicate, cmpH, peek, look, peekV, vals_map, fzL_map, vals, cmpD, fits, fit, fitL, eqv, lf, truV, blOf, Bool.false_eq_true, if_false, if_true, List.set, asgH, esc, put, setP, getP, fz, fzL, asgH.lf', asgD, asgNs, biH, peeks, biD, lenV, newH, binH, binD, ixH, subH, toSV, toSVs, setSVs, okS, setH, setV, isOl, appH, fin_next, fin_ret, outsOf, callH, handArgs, handed, noTwice, backArgs, retH_val, retH_ol, retH_od, retH_oi, List.headD_cons, List.tail_cons, List.headD_nil, List.tail_nil, seqOf, decide_true, decide_false, Bool.and_self, Bool.true_and, Bool.and_true, Bool.false_and, Bool.and_false, Bool.not_true, Bool.not_false, Bool.or_true, Bool.or_false, Bool.true_or, Bool.false_or, List.isEmpty_cons, List.isEmpty_nil, reduceCtorEq, List.contains_nil, List.contains_cons, Nat.reduceBEq, sizeOk, atI_c0, atI_c1, atI_c2, atI_c3, atI_c4, slcD, cut_1, intOf, ix_30, ix_31, ix_32, isTy, List.any_cons, List.any_nil, isNon, isNonV, List.length_map, augD, List.getElem?_cons_zero, List.getElem?_cons_succ, Int.reduceLT, ix_10, ix_1m, ix_20, ix_21, ix_2m, ix_3m, ix_40, ix_41, ix_42, ix_43, ix_4m, ix_50, ix_51, ix_52, ix_53, ix_54, ix_5m, ix_60, ix_61, ix_62, ix_63, ix_64, ix_65, ix_6m, ix_70, ix_71, ix_72, ix_73, ix_74, ix_75, ix_76, ix_7m, ix_80, ix_81, ix_82, ix_83, ix_84, ix_85, ix_86, ix_87, ix_8m, rf0, rf1, rf2, rf3, rf4, rf5, rf6, rf7, rf8, rf9, rf10, rf11, rf12, rf13, rf14, rf15, rf16, rf17, rf18, rf19, rf20, rf21, rf22, rf23, rf24, rf25, rf26, rf27, rf28, rf29, rf30, rf31, rf32, rf33, rf34, rf35, rf36, rf37, rf38, tr, rf11, rf10, h, cut_from, ← List.map_drop, hA, hB, e0, e1, e2, e3, hb', ldD, fr_0]
  | cons q s =>
    cases A with
    | nil =>
      have hb' := hb (q :: s) vr ur lw
      simp only [List.map_cons] at hb'
      simp -dsimp only [g12, f_lead, M_run, varH_val, varH_ol, varH_od, varH_oi, M_cx_rf, M_cx_sub, M_cx_call, seqG_next, seqG_ret, seqG_brk, seqG_cnt, nox_ok, wipe, forA_some, forK_next, forK_cnt, forK_brk, forK_ret, forK_exc, whlK_next, whlK_cnt, whlK_brk, whlK_ret, whlK_exc, whlB_t, whlB_f, lcA_some, lcB_t, lcB_f, M_ev_var, M_ev_pth, M_ev_cst, M_ev_glb, M_ev_bin, M_ev_neg, M_ev_cmp, M_ev_chn, M_ev_and, M_ev_or, M_ev_not, M_ev_iff, M_ev_tup, M_ev_lst, M_ev_ix, M_ev_slc, M_ev_rev, M_ev_call, M_ev_mth, M_ev_new, M_ev_att, M_ev_bi, M_ev_isi, M_ev_isx, M_ev_dget, M_ev_dct0, M_ev_pop, M_ev_popi, M_ev_lc, M_ev_dc, M_ev_stk, M_tst_e, M_tst_and, M_tst_or, M_tst_not, M_tstO_no, M_tstO_yes, M_evs_nil, M_evs_cons, M_evD_nil, M_evD_cons, M_evO_no, M_evO_yes, M_evI_e, M_evI_r1, M_evI_r2, M_ex_asg, M_ex_par, M_ex_mov, M_ex_aug, M_ex_sIx, M_ex_sAt, M_ex_augIx, M_ex_augAt, M_ex_exp, M_ex_app, M_ex_ext, M_ex_ins, M_ex_iff, M_ex_whl, M_ex_for_, M_ex_forO, M_ex_ret, M_ex_retM, M_ex_retN, M_ex_brk, M_ex_cnt, M_ex_pass, M_ex_rais, M_ex_stk, M_ex_tr, M_exs_nil, M_exs_cons, M_exh_nil, M_exh_cons, List.length_cons, List.length_nil, Nat.zero_add, Nat.reduceAdd, Nat.reduceSub, Nat.reduceLeDiff, Nat.reduceLT, if_pos, List.map_cons, List.map_nil, rb_ok, rb_none, ob_some, ob_none, sGet, List.cons_append, List.nil_append, List.replicate, cmpH, peek, look, peekV, vals_map, fzL_map, vals, cmpD, fits, fit, fitL, eqv, lf, truV, blOf, Bool.false_eq_true, if_false, if_true, List.set, asgH, esc, put, setP, getP, fz, fzL, asgH.lf', asgD, asgNs, biH, peeks, biD, lenV, newH, binH, binD, ixH, subH, toSV, toSVs, setSVs, okS, setH, setV, isOl, appH, fin_next, fin_ret, outsOf, callH, handArgs, handed, noTwice, backArgs, retH_val, retH_ol, retH_od, retH_oi, List.headD_cons, List.tail_cons, List.headD_nil, List.tail_nil, seqOf, decide_true, decide_false, Bool.and_self, Bool.true_and, Bool.and_true, Bool.false_and, Bool.and_false, Bool.not_true, Bool.not_false, Bool.or_true, Bool.or_false, Bool.true_or, Bool.false_or, List.isEmpty_cons, List.isEmpty_nil, reduceCtorEq, List.contains_nil, List.contains_cons, Nat.reduceBEq, sizeOk, atI_c0, atI_c1, atI_c2, atI_c3, atI_c4, slcD, cut_1, intOf, ix_30, ix_31, ix_32, isTy, List.any_cons, List.any_nil, isNon, isNonV, List.length_map, augD, List.getElem?_cons_zero, List.getElem?_cons_succ, Int.reduceLT, ix_10, ix_1m, ix_20, ix_21, ix_2m, ix_3m, ix_40, ix_41, ix_42, ix_43, ix_4m, ix_50, ix_51, ix_52, ix_53, ix_54, ix_5m, ix_60, ix_61, ix_62, ix_63, ix_64, ix_65, ix_6m, ix_70, ix_71, ix_72, ix_73, ix_74, ix_75, ix_76, ix_7m, ix_80, ix_81, ix_82, ix_83, ix_84, ix_85, ix_86, ix_87, ix_8m, rf0, rf1, rf2, rf3, rf4, rf5, rf6, rf7, rf8, rf9, rf10, rf11, rf12, rf13, rf14, rf15, rf16, rf17, rf18, rf19, rf20, rf21, rf22, rf23, rf24, rf25, rf26, rf27, rf28, rf29, rf30, rf31, rf32, rf33, rf34, rf35, rf36, rf37, rf38, tr, rf11, rf10, h, cut_from, ← List.map_drop, hA, hB, e0, e1, e2, e3, hb', ldD, fr_0]
    | cons p r => simp -dsimp only [g12, f_lead, M_run, varH_val, varH_ol, varH_od, varH_oi, M_cx_rf, M_cx_sub, M_cx_call, seqG_next, seqG_ret, seqG_brk, seqG_cnt, nox_ok, wipe, forA_some, forK_next, forK_cnt, forK_brk, forK_ret, forK_exc, whlK_next, whlK_cnt, whlK_brk, whlK_ret, whlK_exc, whlB_t, whlB_f, lcA_some, lcB_t, lcB_f, M_ev_var, M_ev_pth, M_ev_cst, M_ev_glb, M_ev_bin, M_ev_neg, M_ev_cmp, M_ev_chn, M_ev_and, M_ev_or, M_ev_not, M_ev_iff, M_ev_tup, M_ev_lst, M_ev_ix, M_ev_slc, M_ev_rev, M_ev_call, M_ev_mth, M_ev_new, M_ev_att, M_ev_bi, M_ev_isi, M_ev_isx, M_ev_dget, M_ev_dct0, M_ev_pop, M_ev_popi, M_ev_lc, M_ev_dc, M_ev_stk, M_tst_e, M_tst_and, M_tst_or, M_tst_not, M_tstO_no, M_tstO_yes, M_evs_nil, M_evs_cons, M_evD_nil, M_evD_cons, M_evO_no, M_evO_yes, M_evI_e, M_evI_r1, M_evI_r2, M_ex_asg, M_ex_par, M_ex_mov, M_ex_aug, M_ex_sIx, M_ex_sAt, M_ex_augIx, M_ex_augAt, M_ex_exp, M_ex_app, M_ex_ext, M_ex_ins, M_ex_iff, M_ex_whl, M_ex_for_, M_ex_forO, M_ex_ret, M_ex_retM, M_ex_retN, M_ex_brk, M_ex_cnt, M_ex_pass, M_ex_rais, M_ex_stk, M_ex_tr, M_exs_nil, M_exs_cons, M_exh_nil, M_exh_cons, List.length_cons, List.length_nil, Nat.zero_add, Nat.reduceAdd, Nat.reduceSub, Nat.reduceLeDiff, Nat.reduceLT, if_pos, List.map_cons, List.map_nil, rb_ok, rb_none, ob_some, ob_none, sGet, List.cons_append, List.nil_append, List.replicate, cmpH, peek, look, peekV, vals_map, fzL_map, vals, cmpD, fits, fit, fitL, eqv, lf, truV, blOf, Bool.false_eq_true, if_false, if_true, List.set, asgH, esc, put, setP, getP, fz, fzL, asgH.lf', asgD, asgNs, biH, peeks, biD, lenV, newH, binH, binD, ixH, subH, toSV, toSVs, setSVs, okS, setH, setV, isOl, appH, fin_next, fin_ret, outsOf, callH, handArgs, handed, noTwice, backArgs, retH_val, retH_ol, retH_od, retH_oi, List.headD_cons, List.tail_cons, List.headD_nil, List.tail_nil, seqOf, decide_true, decide_false, Bool.and_self, Bool.true_and, Bool.and_true, Bool.false_and, Bool.and_false, Bool.not_true, Bool.not_false, Bool.or_true, Bool.or_false, Bool.true_or, Bool.false_or, List.isEmpty_cons, List.isEmpty_nil, reduceCtorEq, List.contains_nil, List.contains_cons, Nat.reduceBEq, sizeOk, atI_c0, atI_c1, atI_c2, atI_c3, atI_c4, slcD, cut_1, intOf, ix_30, ix_31, ix_32, isTy, List.any_cons, List.any_nil, isNon, isNonV, List.length_map, augD, List.getElem?_cons_zero, List.getElem?_cons_succ, Int.reduceLT, ix_10, ix_1m, ix_20, ix_21, ix_2m, ix_3m, ix_40, ix_41, ix_42, ix_43, ix_4m, ix_50, ix_51, ix_52, ix_53, ix_54, ix_5m, ix_60, ix_61, ix_62, ix_63, ix_64, ix_65, ix_6m, ix_70, ix_71, ix_72, ix_73, ix_74, ix_75, ix_76, ix_7m, ix_80, ix_81, ix_82, ix_83, ix_84, ix_85, ix_86, ix_87, ix_8m, rf0, rf1, rf2, rf3, rf4, rf5, rf6, rf7, rf8, rf9, rf10, rf11, rf12, rf13, rf14, rf15, rf16, rf17, rf18, rf19, rf20, rf21, rf22, rf23, rf24, rf25, rf26, rf27, rf28, rf29, rf30, rf31, rf32, rf33, rf34, rf35, rf36, rf37, rf38, tr, rf11, rf10, h, cut_from, ← List.map_drop, hA, hB, e0, e1, e2, e3, ldD, fr_0]
end
end K89
end

section
set_option maxRecDepth 100000
set_option Elab.async false
set_option linter.all false
/-! W6: walks: the law's own leads. -/
namespace K89
open Pv
theorem cp_le : ∀ us vs : List (Int × D), cp us vs ≤ us.length ∧ cp us vs ≤ vs.length
  | [], vs => by simp [cp]
  | x :: xs, [] => by simp [cp]
  | x :: xs, y :: ys => by
    have := cp_le xs ys
    simp only [cp]
    split
    · simp only [List.length_cons]; omega
    · simp
theorem cp_eq : ∀ (us vs : List (Int × D)) (j : Nat) (hu : j < us.length) (hv : j < vs.length), j < cp us vs → eqi us[j] vs[j] = true
  | [], _, j, hu, _, _ => by simp at hu
  | _ :: _, [], j, _, hv, _ => by simp at hv
  | x :: xs, y :: ys, 0, hu, hv, h => by
    simp only [cp] at h
    split at h
    · assumption
    · omega
  | x :: xs, y :: ys, j + 1, hu, hv, h => by
    simp only [cp] at h
    split at h
    · exact cp_eq xs ys j (by simpa using hu) (by simpa using hv) (by omega)
    · omega
theorem cp_ne : ∀ (us vs : List (Int × D)) (hu : cp us vs < us.length) (hv : cp us vs < vs.length), eqi us[cp us vs] vs[cp us vs] = false
  | [], _, hu, _ => by simp [cp] at hu
  | _ :: _, [], _, hv => by simp [cp] at hv
  | x :: xs, y :: ys, hu, hv => by
    by_cases q : eqi x y = true
    · have e : cp (x :: xs) (y :: ys) = cp xs ys + 1 := by simp only [cp]; rw [if_pos q]
      have := cp_ne xs ys (by rw [e] at hu; simpa using hu) (by rw [e] at hv; simpa using hv)
      simp only [e, List.getElem_cons_succ]
      exact this
    · have e : cp (x :: xs) (y :: ys) = 0 := by simp only [cp]; rw [if_neg q]
      simp only [e, List.getElem_cons_zero]
      simpa using q
section
variable {N : Int} [hN : Nice N]
abbrev bLead : Ss := (.cons (.iff (.and (.e (.cmp .eq (.var 2) (.var 3))) (.e (.cmp .eq (.ix (.ix (.var 0) (.cst (.int 0))) (.var 3)) (.ix (.ix (.var 1) (.cst (.int 0))) (.var 3))))) (.cons (.asg (.nm 2) (.bin .add (.var 3) (.cst (.int 1)))) .nil) .nil) .nil)
theorem llead_loop (C : Cxt) (us vs : List (Int × D)) (ru rv : D) (hu : ∀ p ∈ us, okI p) (hv : ∀ p ∈ vs, okI p) (a b : Option SV) : ∀ (m j : Nat), j + m = min us.length vs.length → ∀ w : Option SV, ∃ w',
    M.for_ C (.nm 3) bLead ((List.range' j m).map fun (k : Nat) => D.int (k : Int)) [some (.val (.tup [.tup (us.map (item N)), ru])), some (.val (.tup [.tup (vs.map (item N)), rv])), some (.val (.int ((min (cp us vs) j : Nat) : Int))), w, a, b] =
      some (.ok .next [some (.val (.tup [.tup (us.map (item N)), ru])), some (.val (.tup [.tup (vs.map (item N)), rv])), some (.val (.int ((cp us vs : Nat) : Int))), w', a, b]) := by
  obtain ⟨c1, c2⟩ := cp_le us vs
  intro m
  induction m with
  | zero =>
    intro j hj w
    refine ⟨w, ?_⟩
    have e : min (cp us vs) j = cp us vs := by omega
    rw [e]
    exact M_for_nil _ _ _ _
  | succ m ih =>
    intro j hj w
    have h1 : j < us.length := by omega
    have h2 : j < vs.length := by omega
    have a1 : atI (us.map (item N)) (j : Int) = some (item N us[j]) := by rw [atI_nat, List.getElem?_map, List.getElem?_eq_getElem h1]; rfl
    have a2 : atI (vs.map (item N)) (j : Int) = some (item N vs[j]) := by rw [atI_nat, List.getElem?_map, List.getElem?_eq_getElem h2]; rfl
    have f1 := fits_item (N := N) (hu us[j] (List.getElem_mem h1))
    have f2 := fits_item (N := N) (hv vs[j] (List.getElem_mem h2))
    obtain ⟨w', ih'⟩ := ih (j + 1) (by omega) (some (.val (.int j)))
    refine ⟨w', ?_⟩
    rw [List.range'_succ, List.map_cons, M_for_cons]
    by_cases q : j < cp us vs
    · have e1 : min (cp us vs) j = j := by omega
      have e2 : min (cp us vs) (j + 1) = j + 1 := by omega
      have e3 : eqv (item N us[j]) (item N vs[j]) = true := (eqi_item _ _).trans (cp_eq us vs j h1 h2 q)
      have e4 : ((j : Int) == (j : Int)) = true := by simp
      have e5 : ((j : Int) + 1) = ((j + 1 : Nat) : Int) := by omega
      rw [e2] at ih'
      rw [e1]
      simp -dsimp only [M_run, varH_val, varH_ol, varH_od, varH_oi, M_cx_rf, M_cx_sub, M_cx_call, seqG_next, seqG_ret, seqG_brk, seqG_cnt, nox_ok, wipe, forA_some, forK_next, forK_cnt, forK_brk, forK_ret, forK_exc, whlK_next, whlK_cnt, whlK_brk, whlK_ret, whlK_exc, whlB_t, whlB_f, lcA_some, lcB_t, lcB_f, M_ev_var, M_ev_pth, M_ev_cst, M_ev_glb, M_ev_bin, M_ev_neg, M_ev_cmp, M_ev_chn, M_ev_and, M_ev_or, M_ev_not, M_ev_iff, M_ev_tup, M_ev_lst, M_ev_ix, M_ev_slc, M_ev_rev, M_ev_call, M_ev_mth, M_ev_new, M_ev_att, M_ev_bi, M_ev_isi, M_ev_isx, M_ev_dget, M_ev_dct0, M_ev_pop, M_ev_popi, M_ev_lc, M_ev_dc, M_ev_stk, M_tst_e, M_tst_and, M_tst_or, M_tst_not, M_tstO_no, M_tstO_yes, M_evs_nil, M_evs_cons, M_evD_nil, M_evD_cons, M_evO_no, M_evO_yes, M_evI_e, M_evI_r1, M_evI_r2, M_ex_asg, M_ex_par, M_ex_mov, M_ex_aug, M_ex_sIx, M_ex_sAt, M_ex_augIx, M_ex_augAt, M_ex_exp, M_ex_app, M_ex_ext, M_ex_ins, M_ex_iff, M_ex_whl, M_ex_for_, M_ex_forO, M_ex_ret, M_ex_retM, M_ex_retN, M_ex_brk, M_ex_cnt, M_ex_pass, M_ex_rais, M_ex_stk, M_ex_tr, M_exs_nil, M_exs_cons, M_exh_nil, M_exh_cons, List.length_cons, List.length_nil, Nat.zero_add, Nat.reduceAdd, Nat.reduceSub, Nat.reduceLeDiff, Nat.reduceLT, if_pos, List.map_cons, List.map_nil, rb_ok, rb_none, ob_some, ob_none, sGet, List.cons_append, List.nil_append, List.replicate, cmpH, peek, look, peekV, vals_map, fzL_map, vals, cmpD, fits, fit, fitL, eqv, lf, truV, blOf, Bool.false_eq_true, if_false, if_true, List.set, asgH, esc, put, setP, getP, fz, fzL, asgH.lf', asgD, asgNs, biH, peeks, biD, lenV, newH, binH, binD, ixH, subH, toSV, toSVs, setSVs, okS, setH, setV, isOl, appH, fin_next, fin_ret, outsOf, callH, handArgs, handed, noTwice, backArgs, retH_val, retH_ol, retH_od, retH_oi, List.headD_cons, List.tail_cons, List.headD_nil, List.tail_nil, seqOf, decide_true, decide_false, Bool.and_self, Bool.true_and, Bool.and_true, Bool.false_and, Bool.and_false, Bool.not_true, Bool.not_false, Bool.or_true, Bool.or_false, Bool.true_or, Bool.false_or, List.isEmpty_cons, List.isEmpty_nil, reduceCtorEq, List.contains_nil, List.contains_cons, Nat.reduceBEq, sizeOk, atI_c0, atI_c1, atI_c2, atI_c3, atI_c4, slcD, cut_1, intOf, ix_30, ix_31, ix_32, isTy, List.any_cons, List.any_nil, isNon, isNonV, List.length_map, augD, List.getElem?_cons_zero, List.getElem?_cons_succ, Int.reduceLT, ix_10, ix_1m, ix_20, ix_21, ix_2m, ix_3m, ix_40, ix_41, ix_42, ix_43, ix_4m, ix_50, ix_51, ix_52, ix_53, ix_54, ix_5m, ix_60, ix_61, ix_62, ix_63, ix_64, ix_65, ix_6m, ix_70, ix_71, ix_72, ix_73, ix_74, ix_75, ix_76, ix_7m, ix_80, ix_81, ix_82, ix_83, ix_84, ix_85, ix_86, ix_87, ix_8m, rf0, rf1, rf2, rf3, rf4, rf5, rf6, rf7, rf8, rf9, rf10, rf11, rf12, rf13, rf14, rf15, rf16, rf17, rf18, rf19, rf20, rf21, rf22, rf23, rf24, rf25, rf26, rf27, rf28, rf29, rf30, rf31, rf32, rf33, rf34, rf35, rf36, rf37, rf38, e3, e4, e5, a1, a2, f1, f2, forK_next, ih']
    · have e1 : min (cp us vs) j = cp us vs := by omega
      have e2 : min (cp us vs) (j + 1) = cp us vs := by omega
      rw [e2] at ih'
      rw [e1]
      by_cases q2 : cp us vs = j
      · subst q2
        have e3 : eqv (item N us[cp us vs]) (item N vs[cp us vs]) = false := (eqi_item _ _).trans (cp_ne us vs h1 h2)
        have e4 : ((cp us vs : Int) == (cp us vs : Int)) = true := by simp
        simp -dsimp only [M_run, varH_val, varH_ol, varH_od, varH_oi, M_cx_rf, M_cx_sub, M_cx_call, seqG_next, seqG_ret, seqG_brk, seqG_cnt, nox_ok, wipe, forA_some, forK_next, forK_cnt, forK_brk, forK_ret, forK_exc, whlK_next, whlK_cnt, whlK_brk, whlK_ret, whlK_exc, whlB_t, whlB_f, lcA_some, lcB_t, lcB_f, M_ev_var, M_ev_pth, M_ev_cst, M_ev_glb, M_ev_bin, M_ev_neg, M_ev_cmp, M_ev_chn, M_ev_and, M_ev_or, M_ev_not, M_ev_iff, M_ev_tup, M_ev_lst, M_ev_ix, M_ev_slc, M_ev_rev, M_ev_call, M_ev_mth, M_ev_new, M_ev_att, M_ev_bi, M_ev_isi, M_ev_isx, M_ev_dget, M_ev_dct0, M_ev_pop, M_ev_popi, M_ev_lc, M_ev_dc, M_ev_stk, M_tst_e, M_tst_and, M_tst_or, M_tst_not, M_tstO_no, M_tstO_yes, M_evs_nil, M_evs_cons, M_evD_nil, M_evD_cons, M_evO_no, M_evO_yes, M_evI_e, M_evI_r1, M_evI_r2, M_ex_asg, M_ex_par, M_ex_mov, M_ex_aug, M_ex_sIx, M_ex_sAt, M_ex_augIx, M_ex_augAt, M_ex_exp, M_ex_app, M_ex_ext, M_ex_ins, M_ex_iff, M_ex_whl, M_ex_for_, M_ex_forO, M_ex_ret, M_ex_retM, M_ex_retN, M_ex_brk, M_ex_cnt, M_ex_pass, M_ex_rais, M_ex_stk, M_ex_tr, M_exs_nil, M_exs_cons, M_exh_nil, M_exh_cons, List.length_cons, List.length_nil, Nat.zero_add, Nat.reduceAdd, Nat.reduceSub, Nat.reduceLeDiff, Nat.reduceLT, if_pos, List.map_cons, List.map_nil, rb_ok, rb_none, ob_some, ob_none, sGet, List.cons_append, List.nil_append, List.replicate, cmpH, peek, look, peekV, vals_map, fzL_map, vals, cmpD, fits, fit, fitL, eqv, lf, truV, blOf, Bool.false_eq_true, if_false, if_true, List.set, asgH, esc, put, setP, getP, fz, fzL, asgH.lf', asgD, asgNs, biH, peeks, biD, lenV, newH, binH, binD, ixH, subH, toSV, toSVs, setSVs, okS, setH, setV, isOl, appH, fin_next, fin_ret, outsOf, callH, handArgs, handed, noTwice, backArgs, retH_val, retH_ol, retH_od, retH_oi, List.headD_cons, List.tail_cons, List.headD_nil, List.tail_nil, seqOf, decide_true, decide_false, Bool.and_self, Bool.true_and, Bool.and_true, Bool.false_and, Bool.and_false, Bool.not_true, Bool.not_false, Bool.or_true, Bool.or_false, Bool.true_or, Bool.false_or, List.isEmpty_cons, List.isEmpty_nil, reduceCtorEq, List.contains_nil, List.contains_cons, Nat.reduceBEq, sizeOk, atI_c0, atI_c1, atI_c2, atI_c3, atI_c4, slcD, cut_1, intOf, ix_30, ix_31, ix_32, isTy, List.any_cons, List.any_nil, isNon, isNonV, List.length_map, augD, List.getElem?_cons_zero, List.getElem?_cons_succ, Int.reduceLT, ix_10, ix_1m, ix_20, ix_21, ix_2m, ix_3m, ix_40, ix_41, ix_42, ix_43, ix_4m, ix_50, ix_51, ix_52, ix_53, ix_54, ix_5m, ix_60, ix_61, ix_62, ix_63, ix_64, ix_65, ix_6m, ix_70, ix_71, ix_72, ix_73, ix_74, ix_75, ix_76, ix_7m, ix_80, ix_81, ix_82, ix_83, ix_84, ix_85, ix_86, ix_87, ix_8m, rf0, rf1, rf2, rf3, rf4, rf5, rf6, rf7, rf8, rf9, rf10, rf11, rf12, rf13, rf14, rf15, rf16, rf17, rf18, rf19, rf20, rf21, rf22, rf23, rf24, rf25, rf26, rf27, rf28, rf29, rf30, rf31, rf32, rf33, rf34, rf35, rf36, rf37, rf38, e3, e4, a1, a2, f1, f2, forK_next, ih']
      · have e4 : ((cp us vs : Int) == (j : Int)) = false := by simp; omega
        simp -dsimp only [M_run, varH_val, varH_ol, varH_od, varH_oi, M_cx_rf, M_cx_sub, M_cx_call, seqG_next, seqG_ret, seqG_brk, seqG_cnt, nox_ok, wipe, forA_some, forK_next, forK_cnt, forK_brk, forK_ret, forK_exc, whlK_next, whlK_cnt, whlK_brk, whlK_ret, whlK_exc, whlB_t, whlB_f, lcA_some, lcB_t, lcB_f, M_ev_var, M_ev_pth, M_ev_cst, M_ev_glb, M_ev_bin, M_ev_neg, M_ev_cmp, M_ev_chn, M_ev_and, M_ev_or, M_ev_not, M_ev_iff, M_ev_tup, M_ev_lst, M_ev_ix, M_ev_slc, M_ev_rev, M_ev_call, M_ev_mth, M_ev_new, M_ev_att, M_ev_bi, M_ev_isi, M_ev_isx, M_ev_dget, M_ev_dct0, M_ev_pop, M_ev_popi, M_ev_lc, M_ev_dc, M_ev_stk, M_tst_e, M_tst_and, M_tst_or, M_tst_not, M_tstO_no, M_tstO_yes, M_evs_nil, M_evs_cons, M_evD_nil, M_evD_cons, M_evO_no, M_evO_yes, M_evI_e, M_evI_r1, M_evI_r2, M_ex_asg, M_ex_par, M_ex_mov, M_ex_aug, M_ex_sIx, M_ex_sAt, M_ex_augIx, M_ex_augAt, M_ex_exp, M_ex_app, M_ex_ext, M_ex_ins, M_ex_iff, M_ex_whl, M_ex_for_, M_ex_forO, M_ex_ret, M_ex_retM, M_ex_retN, M_ex_brk, M_ex_cnt, M_ex_pass, M_ex_rais, M_ex_stk, M_ex_tr, M_exs_nil, M_exs_cons, M_exh_nil, M_exh_cons, List.length_cons, List.length_nil, Nat.zero_add, Nat.reduceAdd, Nat.reduceSub, Nat.reduceLeDiff, Nat.reduceLT, if_pos, List.map_cons, List.map_nil, rb_ok, rb_none, ob_some, ob_none, sGet, List.cons_append, List.nil_append, List.replicate, cmpH, peek, look, peekV, vals_map, fzL_map, vals, cmpD, fits, fit, fitL, eqv, lf, truV, blOf, Bool.false_eq_true, if_false, if_true, List.set, asgH, esc, put, setP, getP, fz, fzL, asgH.lf', asgD, asgNs, biH, peeks, biD, lenV, newH, binH, binD, ixH, subH, toSV, toSVs, setSVs, okS, setH, setV, isOl, appH, fin_next, fin_ret, outsOf, callH, handArgs, handed, noTwice, backArgs, retH_val, retH_ol, retH_od, retH_oi, List.headD_cons, List.tail_cons, List.headD_nil, List.tail_nil, seqOf, decide_true, decide_false, Bool.and_self, Bool.true_and, Bool.and_true, Bool.false_and, Bool.and_false, Bool.not_true, Bool.not_false, Bool.or_true, Bool.or_false, Bool.true_or, Bool.false_or, List.isEmpty_cons, List.isEmpty_nil, reduceCtorEq, List.contains_nil, List.contains_cons, Nat.reduceBEq, sizeOk, atI_c0, atI_c1, atI_c2, atI_c3, atI_c4, slcD, cut_1, intOf, ix_30, ix_31, ix_32, isTy, List.any_cons, List.any_nil, isNon, isNonV, List.length_map, augD, List.getElem?_cons_zero, List.getElem?_cons_succ, Int.reduceLT, ix_10, ix_1m, ix_20, ix_21, ix_2m, ix_3m, ix_40, ix_41, ix_42, ix_43, ix_4m, ix_50, ix_51, ix_52, ix_53, ix_54, ix_5m, ix_60, ix_61, ix_62, ix_63, ix_64, ix_65, ix_6m, ix_70, ix_71, ix_72, ix_73, ix_74, ix_75, ix_76, ix_7m, ix_80, ix_81, ix_82, ix_83, ix_84, ix_85, ix_86, ix_87, ix_8m, rf0, rf1, rf2, rf3, rf4, rf5, rf6, rf7, rf8, rf9, rf10, rf11, rf12, rf13, rf14, rf15, rf16, rf17, rf18, rf19, rf20, rf21, rf22, rf23, rf24, rf25, rf26, rf27, rf28, rf29, rf30, rf31, rf32, rf33, rf34, rf35, rf36, rf37, rf38, e4, forK_next, ih']
theorem w_llead (k : Nat) (u v : Trc) (hu : ∀ p ∈ u.1, okI p) (hv : ∀ p ∈ v.1, okI p) (lu : u.1.length ≤ 1000) (lv : v.1.length ≤ 1000) : M.call prog (k+4) 32 [.val (tr N u), .val (tr N v)] = some (.ok (.val (ldD N (leadM u v))) []) := by
  obtain ⟨us, ur⟩ := u
  obtain ⟨vs, vr⟩ := v
  simp only at hu hv lu lv
  obtain ⟨w', hl⟩ := llead_loop (N := N) (M.cx prog (k+3)) us vs (fr N ur) (fr N vr) hu hv none none (min us.length vs.length) 0 (by omega) none
  have em : (if (vs.length : Int) < (us.length : Int) then (vs.length : Int) else (us.length : Int)) = ((min us.length vs.length : Nat) : Int) := by split <;> omega
  have hr := rngK_nat (n := min us.length vs.length) (by omega)
  have e0' : ((min (cp us vs) 0 : Nat) : Int) = 0 := by omega
  rw [e0', ← List.range_eq_range'] at hl
  have ld := drop_len (c := cp us vs) lu
  have lw := drop_len (c := cp us vs) lv
  have hb : ∀ (A : List (Int × D)) (z w : Int), A.length ≤ 1000 → M.call prog (k+3) 31 [.val (.tup [.tup (A.map (item N)), fr N z]), .val (fr N w)] = some (.ok (.val (tr N (backM (A, z) w))) []) := fun A z w hl => w_lback (N := N) k (A, z) w hl
  unfold leadM
  simp only
  generalize hA : us.drop (cp us vs) = A at *
  generalize hB : vs.drop (cp us vs) = B at *
  have e0 : ∀ n : Nat, decide ((0 : Int) < ((n + 1 : Nat) : Int)) = true := fun n => decide_eq_true (by omega)
  have e1 : decide ((0 : Int) < ((0 : Nat) : Int)) = false := by decide
  have e2 : (((0 : Nat) : Int) == 0) = true := by decide
  have e3 : ∀ n : Nat, (((n + 1 : Nat) : Int) == 0) = false := fun n => len_eq0 (by omega)
  cases B with
  | nil =>
    have hb' := hb A ur vr ld
    cases A with
    | nil =>
      simp only [List.map_nil] at hb'
      simp -dsimp only [g32, f_law_lead, M_run, varH_val, varH_ol, varH_od, varH_oi, M_cx_rf, M_cx_sub, M_cx_call, seqG_next, seqG_ret, seqG_brk, seqG_cnt, nox_ok, wipe, forA_some, forK_next, forK_cnt, forK_brk, forK_ret, forK_exc, whlK_next, whlK_cnt, whlK_brk, whlK_ret, whlK_exc, whlB_t, whlB_f, lcA_some, lcB_t, lcB_f, M_ev_var, M_ev_pth, M_ev_cst, M_ev_glb, M_ev_bin, M_ev_neg, M_ev_cmp, M_ev_chn, M_ev_and, M_ev_or, M_ev_not, M_ev_iff, M_ev_tup, M_ev_lst, M_ev_ix, M_ev_slc, M_ev_rev, M_ev_call, M_ev_mth, M_ev_new, M_ev_att, M_ev_bi, M_ev_isi, M_ev_isx, M_ev_dget, M_ev_dct0, M_ev_pop, M_ev_popi, M_ev_lc, M_ev_dc, M_ev_stk, M_tst_e, M_tst_and, M_tst_or, M_tst_not, M_tstO_no, M_tstO_yes, M_evs_nil, M_evs_cons, M_evD_nil, M_evD_cons, M_evO_no, M_evO_yes, M_evI_e, M_evI_r1, M_evI_r2, M_ex_asg, M_ex_par, M_ex_mov, M_ex_aug, M_ex_sIx, M_ex_sAt, M_ex_augIx, M_ex_augAt, M_ex_exp, M_ex_app, M_ex_ext, M_ex_ins, M_ex_iff, M_ex_whl, M_ex_for_, M_ex_forO, M_ex_ret, M_ex_retM, M_ex_retN, M_ex_brk, M_ex_cnt, M_ex_pass, M_ex_rais, M_ex_stk, M_ex_tr, M_exs_nil, M_exs_cons, M_exh_nil, M_exh_cons, List.length_cons, List.length_nil, Nat.zero_add, Nat.reduceAdd, Nat.reduceSub, Nat.reduceLeDiff, Nat.reduceLT, if_pos, List.map_cons, List.map_nil, rb_ok, rb_none, ob_some, ob_none, sGet, List.cons_append, List.nil_append, List.replicate, cmpH, peek, look, peekV, vals_map, fzL_map, vals, cmpD, fits, fit, fitL, eqv, lf, truV, blOf, Bool.false_eq_true, if_false, if_true, List.set, asgH, esc, put, setP, getP, fz, fzL, asgH.lf', asgD, asgNs, biH, peeks, biD, lenV, newH, binH, binD, ixH, subH, toSV, toSVs, setSVs, okS, setH, setV, isOl, appH, fin_next, fin_ret, outsOf, callH, handArgs, handed, noTwice, backArgs, retH_val, retH_ol, retH_od, retH_oi, List.headD_cons, List.tail_cons, List.headD_nil, List.tail_nil, seqOf, decide_true, decide_false, Bool.and_self, Bool.true_and, Bool.and_true, Bool.false_and, Bool.and_false, Bool.not_true, Bool.not_false, Bool.or_true, Bool.or_false, Bool.true_or, Bool.false_or, List.isEmpty_cons, List.isEmpty_nil, reduceCtorEq, List.contains_nil, List.contains_cons, Nat.reduceBEq, sizeOk, atI_c0, atI_c1, atI_c2, atI_c3, atI_c4, slcD, cut_1, intOf, ix_30, ix_31, ix_32, isTy, List.any_cons, List.any_nil, isNon, isNonV, List.length_map, augD, List.getElem?_cons_zero, List.getElem?_cons_succ, Int.reduceLT, ix_10, ix_1m, ix_20, ix_21, ix_2m, ix_3m, ix_40, ix_41, ix_42, ix_43, ix_4m, ix_50, ix_51, ix_52, ix_53, ix_54, ix_5m, ix_60, ix_61, ix_62, ix_63, ix_64, ix_65, ix_6m, ix_70, ix_71, ix_72, ix_73, ix_74, ix_75, ix_76, ix_7m, ix_80, ix_81, ix_82, ix_83, ix_84, ix_85, ix_86, ix_87, ix_8m, rf0, rf1, rf2, rf3, rf4, rf5, rf6, rf7, rf8, rf9, rf10, rf11, rf12, rf13, rf14, rf15, rf16, rf17, rf18, rf19, rf20, rf21, rf22, rf23, rf24, rf25, rf26, rf27, rf28, rf29, rf30, rf31, rf32, rf33, rf34, rf35, rf36, rf37, rf38, tr, rf31, em, hr, hl, cut_from, ← List.map_drop, hA, hB, e0, e1, e2, e3, hb', ldD, fr_0]
    | cons p r =>
      simp only [List.map_cons] at hb'
      simp -dsimp only [g32, f_law_lead, M_run, varH_val, varH_ol, varH_od, varH_oi, M_cx_rf, M_cx_sub, M_cx_call, seqG_next, seqG_ret, seqG_brk, seqG_cnt, nox_ok, wipe, forA_some, forK_next, forK_cnt, forK_brk, forK_ret, forK_exc, whlK_next, whlK_cnt, whlK_brk, whlK_ret, whlK_exc, whlB_t, whlB_f, lcA_some, lcB_t, lcB_f, M_ev_var, M_ev_pth, M_ev_cst, M_ev_glb, M_ev_bin, M_ev_neg, M_ev_cmp, M_ev_chn, M_ev_and, M_ev_or, M_ev_not, M_ev_iff, M_ev_tup, M_ev_lst, M_ev_ix, M_ev_slc, M_ev_rev, M_ev_call, M_ev_mth, M_ev_new, M_ev_att, M_ev_bi, M_ev_isi, M_ev_isx, M_ev_dget, M_ev_dct0, M_ev_pop, M_ev_popi, M_ev_lc, M_ev_dc, M_ev_stk, M_tst_e, M_tst_and, M_tst_or, M_tst_not, M_tstO_no, M_tstO_yes, M_evs_nil, M_evs_cons, M_evD_nil, M_evD_cons, M_evO_no, M_evO_yes, M_evI_e, M_evI_r1, M_evI_r2, M_ex_asg, M_ex_par, M_ex_mov, M_ex_aug, M_ex_sIx, M_ex_sAt, M_ex_augIx, M_ex_augAt, M_ex_exp, M_ex_app, M_ex_ext, M_ex_ins, M_ex_iff, M_ex_whl, M_ex_for_, M_ex_forO, M_ex_ret, M_ex_retM, M_ex_retN, M_ex_brk, M_ex_cnt, M_ex_pass, M_ex_rais, M_ex_stk, M_ex_tr, M_exs_nil, M_exs_cons, M_exh_nil, M_exh_cons, List.length_cons, List.length_nil, Nat.zero_add, Nat.reduceAdd, Nat.reduceSub, Nat.reduceLeDiff, Nat.reduceLT, if_pos, List.map_cons, List.map_nil, rb_ok, rb_none, ob_some, ob_none, sGet, List.cons_append, List.nil_append, List.replicate, cmpH, peek, look, peekV, vals_map, fzL_map, vals, cmpD, fits, fit, fitL, eqv, lf, truV, blOf, Bool.false_eq_true, if_false, if_true, List.set, asgH, esc, put, setP, getP, fz, fzL, asgH.lf', asgD, asgNs, biH, peeks, biD, lenV, newH, binH, binD, ixH, subH, toSV, toSVs, setSVs, okS, setH, setV, isOl, appH, fin_next, fin_ret, outsOf, callH, handArgs, handed, noTwice, backArgs, retH_val, retH_ol, retH_od, retH_oi, List.headD_cons, List.tail_cons, List.headD_nil, List.tail_nil, seqOf, decide_true, decide_false, Bool.and_self, Bool.true_and, Bool.and_true, Bool.false_and, Bool.and_false, Bool.not_true, Bool.not_false, Bool.or_true, Bool.or_false, Bool.true_or, Bool.false_or, List.isEmpty_cons, List.isEmpty_nil, reduceCtorEq, List.contains_nil, List.contains_cons, Nat.reduceBEq, sizeOk, atI_c0, atI_c1, atI_c2, atI_c3, atI_c4, slcD, cut_1, intOf, ix_30, ix_31, ix_32, isTy, List.any_cons, List.any_nil, isNon, isNonV, List.length_map, augD, List.getElem?_cons_zero, List.getElem?_cons_succ, Int.reduceLT, ix_10, ix_1m, ix_20, ix_21, ix_2m, ix_3m, ix_40, ix_41, ix_42, ix_43, ix_4m, ix_50, ix_51, ix_52, ix_53, ix_54, ix_5m, ix_60, ix_61, ix_62, ix_63, ix_64, ix_65, ix_6m, ix_70, ix_71, ix_72, ix_73, ix_74, ix_75, ix_76, ix_7m, ix_80, ix_81, ix_82, ix_83, ix_84, ix_85, ix_86, ix_87, ix_8m, rf0, rf1, rf2, rf3, rf4, rf5, rf6, rf7, rf8, rf9, rf10, rf11, rf12, rf13, rf14, rf15, rf16, rf17, rf18, rf19, rf20, rf21, rf22, rf23, rf24, rf25, rf26, rf27, rf28, rf29, rf30, rf31, rf32, rf33, rf34, rf35, rf36, rf37, rf38, tr, rf31, em, hr, hl, cut_from, ← List.map_drop, hA, hB, e0, e1, e2, e3, hb', ldD, fr_0]
  | cons q s =>
    cases A with
    | nil =>
      have hb' := hb (q :: s) vr ur lw
      simp only [List.map_cons] at hb'
      simp -dsimp only [g32, f_law_lead, M_run, varH_val, varH_ol, varH_od, varH_oi, M_cx_rf, M_cx_sub, M_cx_call, seqG_next, seqG_ret, seqG_brk, seqG_cnt, nox_ok, wipe, forA_some, forK_next, forK_cnt, forK_brk, forK_ret, forK_exc, whlK_next, whlK_cnt, whlK_brk, whlK_ret, whlK_exc, whlB_t, whlB_f, lcA_some, lcB_t, lcB_f, M_ev_var, M_ev_pth, M_ev_cst, M_ev_glb, M_ev_bin, M_ev_neg, M_ev_cmp, M_ev_chn, M_ev_and, M_ev_or, M_ev_not, M_ev_iff, M_ev_tup, M_ev_lst, M_ev_ix, M_ev_slc, M_ev_rev, M_ev_call, M_ev_mth, M_ev_new, M_ev_att, M_ev_bi, M_ev_isi, M_ev_isx, M_ev_dget, M_ev_dct0, M_ev_pop, M_ev_popi, M_ev_lc, M_ev_dc, M_ev_stk, M_tst_e, M_tst_and, M_tst_or, M_tst_not, M_tstO_no, M_tstO_yes, M_evs_nil, M_evs_cons, M_evD_nil, M_evD_cons, M_evO_no, M_evO_yes, M_evI_e, M_evI_r1, M_evI_r2, M_ex_asg, M_ex_par, M_ex_mov, M_ex_aug, M_ex_sIx, M_ex_sAt, M_ex_augIx, M_ex_augAt, M_ex_exp, M_ex_app, M_ex_ext, M_ex_ins, M_ex_iff, M_ex_whl, M_ex_for_, M_ex_forO, M_ex_ret, M_ex_retM, M_ex_retN, M_ex_brk, M_ex_cnt, M_ex_pass, M_ex_rais, M_ex_stk, M_ex_tr, M_exs_nil, M_exs_cons, M_exh_nil, M_exh_cons, List.length_cons, List.length_nil, Nat.zero_add, Nat.reduceAdd, Nat.reduceSub, Nat.reduceLeDiff, Nat.reduceLT, if_pos, List.map_cons, List.map_nil, rb_ok, rb_none, ob_some, ob_none, sGet, List.cons_append, List.nil_append, List.replicate, cmpH, peek, look, peekV, vals_map, fzL_map, vals, cmpD, fits, fit, fitL, eqv, lf, truV, blOf, Bool.false_eq_true, if_false, if_true, List.set, asgH, esc, put, setP, getP, fz, fzL, asgH.lf', asgD, asgNs, biH, peeks, biD, lenV, newH, binH, binD, ixH, subH, toSV, toSVs, setSVs, okS, setH, setV, isOl, appH, fin_next, fin_ret, outsOf, callH, handArgs, handed, noTwice, backArgs, retH_val, retH_ol, retH_od, retH_oi, List.headD_cons, List.tail_cons, List.headD_nil, List.tail_nil, seqOf, decide_true, decide_false, Bool.and_self, Bool.true_and, Bool.and_true, Bool.false_and, Bool.and_false, Bool.not_true, Bool.not_false, Bool.or_true, Bool.or_false, Bool.true_or, Bool.false_or, List.isEmpty_cons, List.isEmpty_nil, reduceCtorEq, List.contains_nil, List.contains_cons, Nat.reduceBEq, sizeOk, atI_c0, atI_c1, atI_c2, atI_c3, atI_c4, slcD, cut_1, intOf, ix_30, ix_31, ix_32, isTy, List.any_cons, List.any_nil, isNon, isNonV, List.length_map, augD, List.getElem?_cons_zero, List.getElem?_cons_succ, Int.reduceLT, ix_10, ix_1m, ix_20, ix_21, ix_2m, ix_3m, ix_40, ix_41, ix_42, ix_43, ix_4m, ix_50, ix_51, ix_52, ix_53, ix_54, ix_5m, ix_60, ix_61, ix_62, ix_63, ix_64, ix_65, ix_6m, ix_70, ix_71, ix_72, ix_73, ix_74, ix_75, ix_76, ix_7m, ix_80, ix_81, ix_82, ix_83, ix_84, ix_85, ix_86, ix_87, ix_8m, rf0, rf1, rf2, rf3, rf4, rf5, rf6, rf7, rf8, rf9, rf10, rf11, rf12, rf13, rf14, rf15, rf16, rf17, rf18, rf19, rf20, rf21, rf22, rf23, rf24, rf25, rf26, rf27, rf28, rf29, rf30, rf31, rf32, rf33, rf34, rf35, rf36, rf37, rf38, tr, rf31, em, hr, hl, cut_from, ← List.map_drop, hA, hB, e0, e1, e2, e3, hb', ldD, fr_0]
    | cons p r => simp -dsimp only [g32, f_law_lead, M_run, varH_val, varH_ol, varH_od, varH_oi, M_cx_rf, M_cx_sub, M_cx_call, seqG_next, seqG_ret, seqG_brk, seqG_cnt, nox_ok, wipe, forA_some, forK_next, forK_cnt, forK_brk, forK_ret, forK_exc, whlK_next, whlK_cnt, whlK_brk, whlK_ret, whlK_exc, whlB_t, whlB_f, lcA_some, lcB_t, lcB_f, M_ev_var, M_ev_pth, M_ev_cst, M_ev_glb, M_ev_bin, M_ev_neg, M_ev_cmp, M_ev_chn, M_ev_and, M_ev_or, M_ev_not, M_ev_iff, M_ev_tup, M_ev_lst, M_ev_ix, M_ev_slc, M_ev_rev, M_ev_call, M_ev_mth, M_ev_new, M_ev_att, M_ev_bi, M_ev_isi, M_ev_isx, M_ev_dget, M_ev_dct0, M_ev_pop, M_ev_popi, M_ev_lc, M_ev_dc, M_ev_stk, M_tst_e, M_tst_and, M_tst_or, M_tst_not, M_tstO_no, M_tstO_yes, M_evs_nil, M_evs_cons, M_evD_nil, M_evD_cons, M_evO_no, M_evO_yes, M_evI_e, M_evI_r1, M_evI_r2, M_ex_asg, M_ex_par, M_ex_mov, M_ex_aug, M_ex_sIx, M_ex_sAt, M_ex_augIx, M_ex_augAt, M_ex_exp, M_ex_app, M_ex_ext, M_ex_ins, M_ex_iff, M_ex_whl, M_ex_for_, M_ex_forO, M_ex_ret, M_ex_retM, M_ex_retN, M_ex_brk, M_ex_cnt, M_ex_pass, M_ex_rais, M_ex_stk, M_ex_tr, M_exs_nil, M_exs_cons, M_exh_nil, M_exh_cons, List.length_cons, List.length_nil, Nat.zero_add, Nat.reduceAdd, Nat.reduceSub, Nat.reduceLeDiff, Nat.reduceLT, if_pos, List.map_cons, List.map_nil, rb_ok, rb_none, ob_some, ob_none, sGet, List.cons_append, List.nil_append, List.replicate, cmpH, peek, look, peekV, vals_map, fzL_map, vals, cmpD, fits, fit, fitL, eqv, lf, truV, blOf, Bool.false_eq_true, if_false, if_true, List.set, asgH, esc, put, setP, getP, fz, fzL, asgH.lf', asgD, asgNs, biH, peeks, biD, lenV, newH, binH, binD, ixH, subH, toSV, toSVs, setSVs, okS, setH, setV, isOl, appH, fin_next, fin_ret, outsOf, callH, handArgs, handed, noTwice, backArgs, retH_val, retH_ol, retH_od, retH_oi, List.headD_cons, List.tail_cons, List.headD_nil, List.tail_nil, seqOf, decide_true, decide_false, Bool.and_self, Bool.true_and, Bool.and_true, Bool.false_and, Bool.and_false, Bool.not_true, Bool.not_false, Bool.or_true, Bool.or_false, Bool.true_or, Bool.false_or, List.isEmpty_cons, List.isEmpty_nil, reduceCtorEq, List.contains_nil, List.contains_cons, Nat.reduceBEq, sizeOk, atI_c0, atI_c1, atI_c2, atI_c3, atI_c4, slcD, cut_1, intOf, ix_30, ix_31, ix_32, isTy, List.any_cons, List.any_nil, isNon, isNonV, List.length_map, augD, List.getElem?_cons_zero, List.getElem?_cons_succ, Int.reduceLT, ix_10, ix_1m, ix_20, ix_21, ix_2m, ix_3m, ix_40, ix_41, ix_42, ix_43, ix_4m, ix_50, ix_51, ix_52, ix_53, ix_54, ix_5m, ix_60, ix_61, ix_62, ix_63, ix_64, ix_65, ix_6m, ix_70, ix_71, ix_72, ix_73, ix_74, ix_75, ix_76, ix_7m, ix_80, ix_81, ix_82, ix_83, ix_84, ix_85, ix_86, ix_87, ix_8m, rf0, rf1, rf2, rf3, rf4, rf5, rf6, rf7, rf8, rf9, rf10, rf11, rf12, rf13, rf14, rf15, rf16, rf17, rf18, rf19, rf20, rf21, rf22, rf23, rf24, rf25, rf26, rf27, rf28, rf29, rf30, rf31, rf32, rf33, rf34, rf35, rf36, rf37, rf38, tr, rf31, em, hr, hl, cut_from, ← List.map_drop, hA, hB, e0, e1, e2, e3, ldD, fr_0]
end
end K89
end

section
set_option maxRecDepth 100000
set_option Elab.async false
set_option linter.all false
/-! W7: walks: shapes. -/
namespace K89
open Pv
def pt (p : Int × Int) : D := .tup [.int p.1, .int p.2]
def poly (ps : List (Int × Int)) : D := .lst (ps.map pt)
def shD (ps hs : List (List (Int × Int))) : D := .tup [.lst (ps.map poly), .lst (hs.map poly)]
theorem w_box (k : Nat) (x y w h : Int) : M.call prog (k+1) 21 [.val (.int x), .val (.int y), .val (.int w), .val (.int h)] = some (.ok (.ol [.val (.tup [.int x, .int y]), .val (.tup [.int (x + w), .int y]), .val (.tup [.int (x + w), .int (y + h)]), .val (.tup [.int x, .int (y + h)])]) []) := by
  simp -dsimp only [g21, f_law_box, M_run, varH_val, varH_ol, varH_od, varH_oi, M_cx_rf, M_cx_sub, M_cx_call, seqG_next, seqG_ret, seqG_brk, seqG_cnt, nox_ok, wipe, forA_some, forK_next, forK_cnt, forK_brk, forK_ret, forK_exc, whlK_next, whlK_cnt, whlK_brk, whlK_ret, whlK_exc, whlB_t, whlB_f, lcA_some, lcB_t, lcB_f, M_ev_var, M_ev_pth, M_ev_cst, M_ev_glb, M_ev_bin, M_ev_neg, M_ev_cmp, M_ev_chn, M_ev_and, M_ev_or, M_ev_not, M_ev_iff, M_ev_tup, M_ev_lst, M_ev_ix, M_ev_slc, M_ev_rev, M_ev_call, M_ev_mth, M_ev_new, M_ev_att, M_ev_bi, M_ev_isi, M_ev_isx, M_ev_dget, M_ev_dct0, M_ev_pop, M_ev_popi, M_ev_lc, M_ev_dc, M_ev_stk, M_tst_e, M_tst_and, M_tst_or, M_tst_not, M_tstO_no, M_tstO_yes, M_evs_nil, M_evs_cons, M_evD_nil, M_evD_cons, M_evO_no, M_evO_yes, M_evI_e, M_evI_r1, M_evI_r2, M_ex_asg, M_ex_par, M_ex_mov, M_ex_aug, M_ex_sIx, M_ex_sAt, M_ex_augIx, M_ex_augAt, M_ex_exp, M_ex_app, M_ex_ext, M_ex_ins, M_ex_iff, M_ex_whl, M_ex_for_, M_ex_forO, M_ex_ret, M_ex_retM, M_ex_retN, M_ex_brk, M_ex_cnt, M_ex_pass, M_ex_rais, M_ex_stk, M_ex_tr, M_exs_nil, M_exs_cons, M_exh_nil, M_exh_cons, List.length_cons, List.length_nil, Nat.zero_add, Nat.reduceAdd, Nat.reduceSub, Nat.reduceLeDiff, Nat.reduceLT, if_pos, List.map_cons, List.map_nil, rb_ok, rb_none, ob_some, ob_none, sGet, List.cons_append, List.nil_append, List.replicate, cmpH, peek, look, peekV, vals_map, fzL_map, vals, cmpD, fits, fit, fitL, eqv, lf, truV, blOf, Bool.false_eq_true, if_false, if_true, List.set, asgH, esc, put, setP, getP, fz, fzL, asgH.lf', asgD, asgNs, biH, peeks, biD, lenV, newH, binH, binD, ixH, subH, toSV, toSVs, setSVs, okS, setH, setV, isOl, appH, fin_next, fin_ret, outsOf, callH, handArgs, handed, noTwice, backArgs, retH_val, retH_ol, retH_od, retH_oi, List.headD_cons, List.tail_cons, List.headD_nil, List.tail_nil, seqOf, decide_true, decide_false, Bool.and_self, Bool.true_and, Bool.and_true, Bool.false_and, Bool.and_false, Bool.not_true, Bool.not_false, Bool.or_true, Bool.or_false, Bool.true_or, Bool.false_or, List.isEmpty_cons, List.isEmpty_nil, reduceCtorEq, List.contains_nil, List.contains_cons, Nat.reduceBEq, sizeOk, atI_c0, atI_c1, atI_c2, atI_c3, atI_c4, slcD, cut_1, intOf, ix_30, ix_31, ix_32, isTy, List.any_cons, List.any_nil, isNon, isNonV, List.length_map, augD, List.getElem?_cons_zero, List.getElem?_cons_succ, Int.reduceLT, ix_10, ix_1m, ix_20, ix_21, ix_2m, ix_3m, ix_40, ix_41, ix_42, ix_43, ix_4m, ix_50, ix_51, ix_52, ix_53, ix_54, ix_5m, ix_60, ix_61, ix_62, ix_63, ix_64, ix_65, ix_6m, ix_70, ix_71, ix_72, ix_73, ix_74, ix_75, ix_76, ix_7m, ix_80, ix_81, ix_82, ix_83, ix_84, ix_85, ix_86, ix_87, ix_8m, rf0, rf1, rf2, rf3, rf4, rf5, rf6, rf7, rf8, rf9, rf10, rf11, rf12, rf13, rf14, rf15, rf16, rf17, rf18, rf19, rf20, rf21, rf22, rf23, rf24, rf25, rf26, rf27, rf28, rf29, rf30, rf31, rf32, rf33, rf34, rf35, rf36, rf37, rf38, Nat.reduceLeDiff]
theorem w_turn (k : Nat) (a b c d e f : Int) (h1 : (c - a).natAbs < 2 ^ 64) (h2 : (d - b).natAbs < 2 ^ 64) : ∃ t : Int, M.call prog (k+1) 20 [.val (.tup [.int a, .int b]), .val (.tup [.int c, .int d]), .val (.tup [.int e, .int f])] = some (.ok (.val (.int t)) []) := by
  refine ⟨(c - a) * (f - b) - (d - b) * (e - a), ?_⟩
  have m1 := mul_l (j := f - b) h1
  have m2 := mul_l (j := e - a) h2
  simp -dsimp only [g20, f_law_turn, M_run, varH_val, varH_ol, varH_od, varH_oi, M_cx_rf, M_cx_sub, M_cx_call, seqG_next, seqG_ret, seqG_brk, seqG_cnt, nox_ok, wipe, forA_some, forK_next, forK_cnt, forK_brk, forK_ret, forK_exc, whlK_next, whlK_cnt, whlK_brk, whlK_ret, whlK_exc, whlB_t, whlB_f, lcA_some, lcB_t, lcB_f, M_ev_var, M_ev_pth, M_ev_cst, M_ev_glb, M_ev_bin, M_ev_neg, M_ev_cmp, M_ev_chn, M_ev_and, M_ev_or, M_ev_not, M_ev_iff, M_ev_tup, M_ev_lst, M_ev_ix, M_ev_slc, M_ev_rev, M_ev_call, M_ev_mth, M_ev_new, M_ev_att, M_ev_bi, M_ev_isi, M_ev_isx, M_ev_dget, M_ev_dct0, M_ev_pop, M_ev_popi, M_ev_lc, M_ev_dc, M_ev_stk, M_tst_e, M_tst_and, M_tst_or, M_tst_not, M_tstO_no, M_tstO_yes, M_evs_nil, M_evs_cons, M_evD_nil, M_evD_cons, M_evO_no, M_evO_yes, M_evI_e, M_evI_r1, M_evI_r2, M_ex_asg, M_ex_par, M_ex_mov, M_ex_aug, M_ex_sIx, M_ex_sAt, M_ex_augIx, M_ex_augAt, M_ex_exp, M_ex_app, M_ex_ext, M_ex_ins, M_ex_iff, M_ex_whl, M_ex_for_, M_ex_forO, M_ex_ret, M_ex_retM, M_ex_retN, M_ex_brk, M_ex_cnt, M_ex_pass, M_ex_rais, M_ex_stk, M_ex_tr, M_exs_nil, M_exs_cons, M_exh_nil, M_exh_cons, List.length_cons, List.length_nil, Nat.zero_add, Nat.reduceAdd, Nat.reduceSub, Nat.reduceLeDiff, Nat.reduceLT, if_pos, List.map_cons, List.map_nil, rb_ok, rb_none, ob_some, ob_none, sGet, List.cons_append, List.nil_append, List.replicate, cmpH, peek, look, peekV, vals_map, fzL_map, vals, cmpD, fits, fit, fitL, eqv, lf, truV, blOf, Bool.false_eq_true, if_false, if_true, List.set, asgH, esc, put, setP, getP, fz, fzL, asgH.lf', asgD, asgNs, biH, peeks, biD, lenV, newH, binH, binD, ixH, subH, toSV, toSVs, setSVs, okS, setH, setV, isOl, appH, fin_next, fin_ret, outsOf, callH, handArgs, handed, noTwice, backArgs, retH_val, retH_ol, retH_od, retH_oi, List.headD_cons, List.tail_cons, List.headD_nil, List.tail_nil, seqOf, decide_true, decide_false, Bool.and_self, Bool.true_and, Bool.and_true, Bool.false_and, Bool.and_false, Bool.not_true, Bool.not_false, Bool.or_true, Bool.or_false, Bool.true_or, Bool.false_or, List.isEmpty_cons, List.isEmpty_nil, reduceCtorEq, List.contains_nil, List.contains_cons, Nat.reduceBEq, sizeOk, atI_c0, atI_c1, atI_c2, atI_c3, atI_c4, slcD, cut_1, intOf, ix_30, ix_31, ix_32, isTy, List.any_cons, List.any_nil, isNon, isNonV, List.length_map, augD, List.getElem?_cons_zero, List.getElem?_cons_succ, Int.reduceLT, ix_10, ix_1m, ix_20, ix_21, ix_2m, ix_3m, ix_40, ix_41, ix_42, ix_43, ix_4m, ix_50, ix_51, ix_52, ix_53, ix_54, ix_5m, ix_60, ix_61, ix_62, ix_63, ix_64, ix_65, ix_6m, ix_70, ix_71, ix_72, ix_73, ix_74, ix_75, ix_76, ix_7m, ix_80, ix_81, ix_82, ix_83, ix_84, ix_85, ix_86, ix_87, ix_8m, rf0, rf1, rf2, rf3, rf4, rf5, rf6, rf7, rf8, rf9, rf10, rf11, rf12, rf13, rf14, rf15, rf16, rf17, rf18, rf19, rf20, rf21, rf22, rf23, rf24, rf25, rf26, rf27, rf28, rf29, rf30, rf31, rf32, rf33, rf34, rf35, rf36, rf37, rf38, m1, m2]
theorem w_triangle (k : Nat) (s : Sm) (x y : Int) : ∃ a b c s', M.call prog (k+2) 22 [strm s, .val (.int x), .val (.int y)] = some (.ok (.ol [.val (pt a), .val (pt b), .val (pt c)]) [strm s']) := by
  have hn := w_next k
  have b1 := nx_bd s (size := 200) (by decide)
  have b2 := nx_bd (ns s 200) (size := 200) (by decide)
  have b3 := nx_bd (ns (ns (ns s 200) 200) 200) (size := 3) (by decide)
  have b4 := nx_bd (ns (ns (ns (ns s 200) 200) 200) 3) (size := 60) (by decide)
  have m := mul_l (i := nx (ns (ns (ns s 200) 200) 200) 3) (j := nx (ns (ns (ns (ns s 200) 200) 200) 3) 60) (by omega)
  obtain ⟨t, ht⟩ := w_turn k x y (x + nx s 200 - 100) (y + nx (ns s 200) 200 - 100) (x + nx (ns (ns s 200) 200) 200 - 100) (y + nx (ns (ns (ns s 200) 200) 200) 3 * nx (ns (ns (ns (ns s 200) 200) 200) 3) 60) (by omega) (by omega)
  by_cases h0 : t = 0
  · have c0 : (t == (0 : Int)) = true := by simp [h0]
    refine ⟨_, _, _, _, Eq.trans (b := some (.ok (.ol [.val (pt (x, y)), .val (pt (x + 50, y)), .val (pt (x + 20, y + 40))]) [strm (ns (ns (ns (ns (ns s 200) 200) 200) 3) 60)])) ?_ rfl⟩
    simp -dsimp only [g22, f_law_triangle, M_run, varH_val, varH_ol, varH_od, varH_oi, M_cx_rf, M_cx_sub, M_cx_call, seqG_next, seqG_ret, seqG_brk, seqG_cnt, nox_ok, wipe, forA_some, forK_next, forK_cnt, forK_brk, forK_ret, forK_exc, whlK_next, whlK_cnt, whlK_brk, whlK_ret, whlK_exc, whlB_t, whlB_f, lcA_some, lcB_t, lcB_f, M_ev_var, M_ev_pth, M_ev_cst, M_ev_glb, M_ev_bin, M_ev_neg, M_ev_cmp, M_ev_chn, M_ev_and, M_ev_or, M_ev_not, M_ev_iff, M_ev_tup, M_ev_lst, M_ev_ix, M_ev_slc, M_ev_rev, M_ev_call, M_ev_mth, M_ev_new, M_ev_att, M_ev_bi, M_ev_isi, M_ev_isx, M_ev_dget, M_ev_dct0, M_ev_pop, M_ev_popi, M_ev_lc, M_ev_dc, M_ev_stk, M_tst_e, M_tst_and, M_tst_or, M_tst_not, M_tstO_no, M_tstO_yes, M_evs_nil, M_evs_cons, M_evD_nil, M_evD_cons, M_evO_no, M_evO_yes, M_evI_e, M_evI_r1, M_evI_r2, M_ex_asg, M_ex_par, M_ex_mov, M_ex_aug, M_ex_sIx, M_ex_sAt, M_ex_augIx, M_ex_augAt, M_ex_exp, M_ex_app, M_ex_ext, M_ex_ins, M_ex_iff, M_ex_whl, M_ex_for_, M_ex_forO, M_ex_ret, M_ex_retM, M_ex_retN, M_ex_brk, M_ex_cnt, M_ex_pass, M_ex_rais, M_ex_stk, M_ex_tr, M_exs_nil, M_exs_cons, M_exh_nil, M_exh_cons, List.length_cons, List.length_nil, Nat.zero_add, Nat.reduceAdd, Nat.reduceSub, Nat.reduceLeDiff, Nat.reduceLT, if_pos, List.map_cons, List.map_nil, rb_ok, rb_none, ob_some, ob_none, sGet, List.cons_append, List.nil_append, List.replicate, cmpH, peek, look, peekV, vals_map, fzL_map, vals, cmpD, fits, fit, fitL, eqv, lf, truV, blOf, Bool.false_eq_true, if_false, if_true, List.set, asgH, esc, put, setP, getP, fz, fzL, asgH.lf', asgD, asgNs, biH, peeks, biD, lenV, newH, binH, binD, ixH, subH, toSV, toSVs, setSVs, okS, setH, setV, isOl, appH, fin_next, fin_ret, outsOf, callH, handArgs, handed, noTwice, backArgs, retH_val, retH_ol, retH_od, retH_oi, List.headD_cons, List.tail_cons, List.headD_nil, List.tail_nil, seqOf, decide_true, decide_false, Bool.and_self, Bool.true_and, Bool.and_true, Bool.false_and, Bool.and_false, Bool.not_true, Bool.not_false, Bool.or_true, Bool.or_false, Bool.true_or, Bool.false_or, List.isEmpty_cons, List.isEmpty_nil, reduceCtorEq, List.contains_nil, List.contains_cons, Nat.reduceBEq, sizeOk, atI_c0, atI_c1, atI_c2, atI_c3, atI_c4, slcD, cut_1, intOf, ix_30, ix_31, ix_32, isTy, List.any_cons, List.any_nil, isNon, isNonV, List.length_map, augD, List.getElem?_cons_zero, List.getElem?_cons_succ, Int.reduceLT, ix_10, ix_1m, ix_20, ix_21, ix_2m, ix_3m, ix_40, ix_41, ix_42, ix_43, ix_4m, ix_50, ix_51, ix_52, ix_53, ix_54, ix_5m, ix_60, ix_61, ix_62, ix_63, ix_64, ix_65, ix_6m, ix_70, ix_71, ix_72, ix_73, ix_74, ix_75, ix_76, ix_7m, ix_80, ix_81, ix_82, ix_83, ix_84, ix_85, ix_86, ix_87, ix_8m, rf0, rf1, rf2, rf3, rf4, rf5, rf6, rf7, rf8, rf9, rf10, rf11, rf12, rf13, rf14, rf15, rf16, rf17, rf18, rf19, rf20, rf21, rf22, rf23, rf24, rf25, rf26, rf27, rf28, rf29, rf30, rf31, rf32, rf33, rf34, rf35, rf36, rf37, rf38, hn, varH_strm, m, ht, c0, pt]
  · have c0 : (t == (0 : Int)) = false := by simp [h0]
    by_cases h1 : t < 0
    · have c1 : decide (t < (0 : Int)) = true := by simp [h1]
      refine ⟨(x, y), (x + nx (ns (ns s 200) 200) 200 - 100, y + nx (ns (ns (ns s 200) 200) 200) 3 * nx (ns (ns (ns (ns s 200) 200) 200) 3) 60), (x + nx s 200 - 100, y + nx (ns s 200) 200 - 100), ns (ns (ns (ns (ns s 200) 200) 200) 3) 60, ?_⟩
      simp -dsimp only [g22, f_law_triangle, M_run, varH_val, varH_ol, varH_od, varH_oi, M_cx_rf, M_cx_sub, M_cx_call, seqG_next, seqG_ret, seqG_brk, seqG_cnt, nox_ok, wipe, forA_some, forK_next, forK_cnt, forK_brk, forK_ret, forK_exc, whlK_next, whlK_cnt, whlK_brk, whlK_ret, whlK_exc, whlB_t, whlB_f, lcA_some, lcB_t, lcB_f, M_ev_var, M_ev_pth, M_ev_cst, M_ev_glb, M_ev_bin, M_ev_neg, M_ev_cmp, M_ev_chn, M_ev_and, M_ev_or, M_ev_not, M_ev_iff, M_ev_tup, M_ev_lst, M_ev_ix, M_ev_slc, M_ev_rev, M_ev_call, M_ev_mth, M_ev_new, M_ev_att, M_ev_bi, M_ev_isi, M_ev_isx, M_ev_dget, M_ev_dct0, M_ev_pop, M_ev_popi, M_ev_lc, M_ev_dc, M_ev_stk, M_tst_e, M_tst_and, M_tst_or, M_tst_not, M_tstO_no, M_tstO_yes, M_evs_nil, M_evs_cons, M_evD_nil, M_evD_cons, M_evO_no, M_evO_yes, M_evI_e, M_evI_r1, M_evI_r2, M_ex_asg, M_ex_par, M_ex_mov, M_ex_aug, M_ex_sIx, M_ex_sAt, M_ex_augIx, M_ex_augAt, M_ex_exp, M_ex_app, M_ex_ext, M_ex_ins, M_ex_iff, M_ex_whl, M_ex_for_, M_ex_forO, M_ex_ret, M_ex_retM, M_ex_retN, M_ex_brk, M_ex_cnt, M_ex_pass, M_ex_rais, M_ex_stk, M_ex_tr, M_exs_nil, M_exs_cons, M_exh_nil, M_exh_cons, List.length_cons, List.length_nil, Nat.zero_add, Nat.reduceAdd, Nat.reduceSub, Nat.reduceLeDiff, Nat.reduceLT, if_pos, List.map_cons, List.map_nil, rb_ok, rb_none, ob_some, ob_none, sGet, List.cons_append, List.nil_append, List.replicate, cmpH, peek, look, peekV, vals_map, fzL_map, vals, cmpD, fits, fit, fitL, eqv, lf, truV, blOf, Bool.false_eq_true, if_false, if_true, List.set, asgH, esc, put, setP, getP, fz, fzL, asgH.lf', asgD, asgNs, biH, peeks, biD, lenV, newH, binH, binD, ixH, subH, toSV, toSVs, setSVs, okS, setH, setV, isOl, appH, fin_next, fin_ret, outsOf, callH, handArgs, handed, noTwice, backArgs, retH_val, retH_ol, retH_od, retH_oi, List.headD_cons, List.tail_cons, List.headD_nil, List.tail_nil, seqOf, decide_true, decide_false, Bool.and_self, Bool.true_and, Bool.and_true, Bool.false_and, Bool.and_false, Bool.not_true, Bool.not_false, Bool.or_true, Bool.or_false, Bool.true_or, Bool.false_or, List.isEmpty_cons, List.isEmpty_nil, reduceCtorEq, List.contains_nil, List.contains_cons, Nat.reduceBEq, sizeOk, atI_c0, atI_c1, atI_c2, atI_c3, atI_c4, slcD, cut_1, intOf, ix_30, ix_31, ix_32, isTy, List.any_cons, List.any_nil, isNon, isNonV, List.length_map, augD, List.getElem?_cons_zero, List.getElem?_cons_succ, Int.reduceLT, ix_10, ix_1m, ix_20, ix_21, ix_2m, ix_3m, ix_40, ix_41, ix_42, ix_43, ix_4m, ix_50, ix_51, ix_52, ix_53, ix_54, ix_5m, ix_60, ix_61, ix_62, ix_63, ix_64, ix_65, ix_6m, ix_70, ix_71, ix_72, ix_73, ix_74, ix_75, ix_76, ix_7m, ix_80, ix_81, ix_82, ix_83, ix_84, ix_85, ix_86, ix_87, ix_8m, rf0, rf1, rf2, rf3, rf4, rf5, rf6, rf7, rf8, rf9, rf10, rf11, rf12, rf13, rf14, rf15, rf16, rf17, rf18, rf19, rf20, rf21, rf22, rf23, rf24, rf25, rf26, rf27, rf28, rf29, rf30, rf31, rf32, rf33, rf34, rf35, rf36, rf37, rf38, hn, varH_strm, m, ht, c0, c1, pt]
    · have c1 : decide (t < (0 : Int)) = false := by simp [h1]
      refine ⟨(x, y), (x + nx s 200 - 100, y + nx (ns s 200) 200 - 100), (x + nx (ns (ns s 200) 200) 200 - 100, y + nx (ns (ns (ns s 200) 200) 200) 3 * nx (ns (ns (ns (ns s 200) 200) 200) 3) 60), ns (ns (ns (ns (ns s 200) 200) 200) 3) 60, ?_⟩
      simp -dsimp only [g22, f_law_triangle, M_run, varH_val, varH_ol, varH_od, varH_oi, M_cx_rf, M_cx_sub, M_cx_call, seqG_next, seqG_ret, seqG_brk, seqG_cnt, nox_ok, wipe, forA_some, forK_next, forK_cnt, forK_brk, forK_ret, forK_exc, whlK_next, whlK_cnt, whlK_brk, whlK_ret, whlK_exc, whlB_t, whlB_f, lcA_some, lcB_t, lcB_f, M_ev_var, M_ev_pth, M_ev_cst, M_ev_glb, M_ev_bin, M_ev_neg, M_ev_cmp, M_ev_chn, M_ev_and, M_ev_or, M_ev_not, M_ev_iff, M_ev_tup, M_ev_lst, M_ev_ix, M_ev_slc, M_ev_rev, M_ev_call, M_ev_mth, M_ev_new, M_ev_att, M_ev_bi, M_ev_isi, M_ev_isx, M_ev_dget, M_ev_dct0, M_ev_pop, M_ev_popi, M_ev_lc, M_ev_dc, M_ev_stk, M_tst_e, M_tst_and, M_tst_or, M_tst_not, M_tstO_no, M_tstO_yes, M_evs_nil, M_evs_cons, M_evD_nil, M_evD_cons, M_evO_no, M_evO_yes, M_evI_e, M_evI_r1, M_evI_r2, M_ex_asg, M_ex_par, M_ex_mov, M_ex_aug, M_ex_sIx, M_ex_sAt, M_ex_augIx, M_ex_augAt, M_ex_exp, M_ex_app, M_ex_ext, M_ex_ins, M_ex_iff, M_ex_whl, M_ex_for_, M_ex_forO, M_ex_ret, M_ex_retM, M_ex_retN, M_ex_brk, M_ex_cnt, M_ex_pass, M_ex_rais, M_ex_stk, M_ex_tr, M_exs_nil, M_exs_cons, M_exh_nil, M_exh_cons, List.length_cons, List.length_nil, Nat.zero_add, Nat.reduceAdd, Nat.reduceSub, Nat.reduceLeDiff, Nat.reduceLT, if_pos, List.map_cons, List.map_nil, rb_ok, rb_none, ob_some, ob_none, sGet, List.cons_append, List.nil_append, List.replicate, cmpH, peek, look, peekV, vals_map, fzL_map, vals, cmpD, fits, fit, fitL, eqv, lf, truV, blOf, Bool.false_eq_true, if_false, if_true, List.set, asgH, esc, put, setP, getP, fz, fzL, asgH.lf', asgD, asgNs, biH, peeks, biD, lenV, newH, binH, binD, ixH, subH, toSV, toSVs, setSVs, okS, setH, setV, isOl, appH, fin_next, fin_ret, outsOf, callH, handArgs, handed, noTwice, backArgs, retH_val, retH_ol, retH_od, retH_oi, List.headD_cons, List.tail_cons, List.headD_nil, List.tail_nil, seqOf, decide_true, decide_false, Bool.and_self, Bool.true_and, Bool.and_true, Bool.false_and, Bool.and_false, Bool.not_true, Bool.not_false, Bool.or_true, Bool.or_false, Bool.true_or, Bool.false_or, List.isEmpty_cons, List.isEmpty_nil, reduceCtorEq, List.contains_nil, List.contains_cons, Nat.reduceBEq, sizeOk, atI_c0, atI_c1, atI_c2, atI_c3, atI_c4, slcD, cut_1, intOf, ix_30, ix_31, ix_32, isTy, List.any_cons, List.any_nil, isNon, isNonV, List.length_map, augD, List.getElem?_cons_zero, List.getElem?_cons_succ, Int.reduceLT, ix_10, ix_1m, ix_20, ix_21, ix_2m, ix_3m, ix_40, ix_41, ix_42, ix_43, ix_4m, ix_50, ix_51, ix_52, ix_53, ix_54, ix_5m, ix_60, ix_61, ix_62, ix_63, ix_64, ix_65, ix_6m, ix_70, ix_71, ix_72, ix_73, ix_74, ix_75, ix_76, ix_7m, ix_80, ix_81, ix_82, ix_83, ix_84, ix_85, ix_86, ix_87, ix_8m, rf0, rf1, rf2, rf3, rf4, rf5, rf6, rf7, rf8, rf9, rf10, rf11, rf12, rf13, rf14, rf15, rf16, rf17, rf18, rf19, rf20, rf21, rf22, rf23, rf24, rf25, rf26, rf27, rf28, rf29, rf30, rf31, rf32, rf33, rf34, rf35, rf36, rf37, rf38, hn, varH_strm, m, ht, c0, c1, pt]
/-- a shape of few points -/
structure ShOk (ps hs : List (List (Int × Int))) : Prop where
  ne : ps ≠ []
  ln : ps.length + hs.length ≤ 2
  l3 : ∀ p ∈ ps ++ hs, p ≠ [] ∧ p.length ≤ 8
theorem ShOk.one {p : List (Int × Int)} (h : p ≠ []) (h2 : p.length ≤ 8) : ShOk [p] [] := ⟨nofun, by simp, by simp [h, h2]⟩
theorem ShOk.two {p q : List (Int × Int)} (h : p ≠ []) (h2 : p.length ≤ 8) (h3 : q ≠ []) (h4 : q.length ≤ 8) : ShOk [p, q] [] := ⟨nofun, by simp, by simp [h, h2, h3, h4]⟩
theorem ShOk.hole {p q : List (Int × Int)} (h : p ≠ []) (h2 : p.length ≤ 8) (h3 : q ≠ []) (h4 : q.length ≤ 8) : ShOk [p] [q] := ⟨nofun, by simp, by simp [h, h2, h3, h4]⟩
def bx (x y w h : Int) : List (Int × Int) := [(x, y), (x + w, y), (x + w, y + h), (x, y + h)]
theorem w_shape (k : Nat) (s : Sm) : ∃ ps hs s', ShOk ps hs ∧ M.call prog (k+3) 23 [strm s, .val (.int 5)] = some (.ok (.val (shD ps hs)) [strm s']) := by
  have hn := w_next (k+1)
  have hb := w_box (k+1)
  have c5 := nx_bd s (size := 5) (by decide)
  have c4 := nx_bd (ns (ns s 5) 400) (size := 5) (by decide)
  have m := mul_l (i := nx (ns (ns s 5) 400) 5) (j := nx (ns (ns (ns s 5) 400) 5) 60) (by omega)
  generalize hs1 : ns (ns (ns (ns (ns (ns s 5) 400) 5) 60) 150) 150 = s1
  generalize hx : nx (ns s 5) 400 - 150 = x
  generalize hy : nx (ns (ns s 5) 400) 5 * nx (ns (ns (ns s 5) 400) 5) 60 - 60 = y
  generalize hw : nx (ns (ns (ns (ns s 5) 400) 5) 60) 150 + 1 = w
  generalize hh : nx (ns (ns (ns (ns (ns s 5) 400) 5) 60) 150) 150 + 1 = h
  have m3 := mul_l (i := nx (ns s1 80) 3) (j := nx (ns (ns s1 80) 3) 90) (by have := nx_bd (ns s1 80) (size := 3) (by decide); omega)
  obtain ⟨a, b, c, s2, ht⟩ := w_triangle k s1 x y
  have k5 : nx s 5 = 0 ∨ nx s 5 = 1 ∨ nx s 5 = 2 ∨ nx s 5 = 3 ∨ nx s 5 = 4 := by omega
  have e00 : ((0 : Int) == 0) = true := by decide
  have e10 : ((1 : Int) == 0) = false := by decide
  have e20 : ((2 : Int) == 0) = false := by decide
  have e30 : ((3 : Int) == 0) = false := by decide
  have e40 : ((4 : Int) == 0) = false := by decide
  have e11 : ((1 : Int) == 1) = true := by decide
  have e21 : ((2 : Int) == 1) = false := by decide
  have e31 : ((3 : Int) == 1) = false := by decide
  have e41 : ((4 : Int) == 1) = false := by decide
  have e22 : ((2 : Int) == 2) = true := by decide
  have e32 : ((3 : Int) == 2) = false := by decide
  have e42 : ((4 : Int) == 2) = false := by decide
  have e33 : ((3 : Int) == 3) = true := by decide
  have e43 : ((4 : Int) == 3) = false := by decide
  have e44 : ((4 : Int) == 4) = true := by decide
  rcases k5 with q | q | q | q | q
  · refine ⟨[bx x y w h], [], s1, .one nofun (by simp [bx]), ?_⟩
    simp -dsimp only [g23, f_law_shape, M_run, varH_val, varH_ol, varH_od, varH_oi, M_cx_rf, M_cx_sub, M_cx_call, seqG_next, seqG_ret, seqG_brk, seqG_cnt, nox_ok, wipe, forA_some, forK_next, forK_cnt, forK_brk, forK_ret, forK_exc, whlK_next, whlK_cnt, whlK_brk, whlK_ret, whlK_exc, whlB_t, whlB_f, lcA_some, lcB_t, lcB_f, M_ev_var, M_ev_pth, M_ev_cst, M_ev_glb, M_ev_bin, M_ev_neg, M_ev_cmp, M_ev_chn, M_ev_and, M_ev_or, M_ev_not, M_ev_iff, M_ev_tup, M_ev_lst, M_ev_ix, M_ev_slc, M_ev_rev, M_ev_call, M_ev_mth, M_ev_new, M_ev_att, M_ev_bi, M_ev_isi, M_ev_isx, M_ev_dget, M_ev_dct0, M_ev_pop, M_ev_popi, M_ev_lc, M_ev_dc, M_ev_stk, M_tst_e, M_tst_and, M_tst_or, M_tst_not, M_tstO_no, M_tstO_yes, M_evs_nil, M_evs_cons, M_evD_nil, M_evD_cons, M_evO_no, M_evO_yes, M_evI_e, M_evI_r1, M_evI_r2, M_ex_asg, M_ex_par, M_ex_mov, M_ex_aug, M_ex_sIx, M_ex_sAt, M_ex_augIx, M_ex_augAt, M_ex_exp, M_ex_app, M_ex_ext, M_ex_ins, M_ex_iff, M_ex_whl, M_ex_for_, M_ex_forO, M_ex_ret, M_ex_retM, M_ex_retN, M_ex_brk, M_ex_cnt, M_ex_pass, M_ex_rais, M_ex_stk, M_ex_tr, M_exs_nil, M_exs_cons, M_exh_nil, M_exh_cons, List.length_cons, List.length_nil, Nat.zero_add, Nat.reduceAdd, Nat.reduceSub, Nat.reduceLeDiff, Nat.reduceLT, if_pos, List.map_cons, List.map_nil, rb_ok, rb_none, ob_some, ob_none, sGet, List.cons_append, List.nil_append, List.replicate, cmpH, peek, look, peekV, vals_map, fzL_map, vals, cmpD, fits, fit, fitL, eqv, lf, truV, blOf, Bool.false_eq_true, if_false, if_true, List.set, asgH, esc, put, setP, getP, fz, fzL, asgH.lf', asgD, asgNs, biH, peeks, biD, lenV, newH, binH, binD, ixH, subH, toSV, toSVs, setSVs, okS, setH, setV, isOl, appH, fin_next, fin_ret, outsOf, callH, handArgs, handed, noTwice, backArgs, retH_val, retH_ol, retH_od, retH_oi, List.headD_cons, List.tail_cons, List.headD_nil, List.tail_nil, seqOf, decide_true, decide_false, Bool.and_self, Bool.true_and, Bool.and_true, Bool.false_and, Bool.and_false, Bool.not_true, Bool.not_false, Bool.or_true, Bool.or_false, Bool.true_or, Bool.false_or, List.isEmpty_cons, List.isEmpty_nil, reduceCtorEq, List.contains_nil, List.contains_cons, Nat.reduceBEq, sizeOk, atI_c0, atI_c1, atI_c2, atI_c3, atI_c4, slcD, cut_1, intOf, ix_30, ix_31, ix_32, isTy, List.any_cons, List.any_nil, isNon, isNonV, List.length_map, augD, List.getElem?_cons_zero, List.getElem?_cons_succ, Int.reduceLT, ix_10, ix_1m, ix_20, ix_21, ix_2m, ix_3m, ix_40, ix_41, ix_42, ix_43, ix_4m, ix_50, ix_51, ix_52, ix_53, ix_54, ix_5m, ix_60, ix_61, ix_62, ix_63, ix_64, ix_65, ix_6m, ix_70, ix_71, ix_72, ix_73, ix_74, ix_75, ix_76, ix_7m, ix_80, ix_81, ix_82, ix_83, ix_84, ix_85, ix_86, ix_87, ix_8m, rf0, rf1, rf2, rf3, rf4, rf5, rf6, rf7, rf8, rf9, rf10, rf11, rf12, rf13, rf14, rf15, rf16, rf17, rf18, rf19, rf20, rf21, rf22, rf23, rf24, rf25, rf26, rf27, rf28, rf29, rf30, rf31, rf32, rf33, rf34, rf35, rf36, rf37, rf38, hn, hb, varH_strm, m, q, hx, hy, hw, hh, hs1, e00, shD, poly, pt, bx]
  · refine ⟨[[a, b, c]], [], s2, .one nofun (by simp), ?_⟩
    simp -dsimp only [g23, f_law_shape, M_run, varH_val, varH_ol, varH_od, varH_oi, M_cx_rf, M_cx_sub, M_cx_call, seqG_next, seqG_ret, seqG_brk, seqG_cnt, nox_ok, wipe, forA_some, forK_next, forK_cnt, forK_brk, forK_ret, forK_exc, whlK_next, whlK_cnt, whlK_brk, whlK_ret, whlK_exc, whlB_t, whlB_f, lcA_some, lcB_t, lcB_f, M_ev_var, M_ev_pth, M_ev_cst, M_ev_glb, M_ev_bin, M_ev_neg, M_ev_cmp, M_ev_chn, M_ev_and, M_ev_or, M_ev_not, M_ev_iff, M_ev_tup, M_ev_lst, M_ev_ix, M_ev_slc, M_ev_rev, M_ev_call, M_ev_mth, M_ev_new, M_ev_att, M_ev_bi, M_ev_isi, M_ev_isx, M_ev_dget, M_ev_dct0, M_ev_pop, M_ev_popi, M_ev_lc, M_ev_dc, M_ev_stk, M_tst_e, M_tst_and, M_tst_or, M_tst_not, M_tstO_no, M_tstO_yes, M_evs_nil, M_evs_cons, M_evD_nil, M_evD_cons, M_evO_no, M_evO_yes, M_evI_e, M_evI_r1, M_evI_r2, M_ex_asg, M_ex_par, M_ex_mov, M_ex_aug, M_ex_sIx, M_ex_sAt, M_ex_augIx, M_ex_augAt, M_ex_exp, M_ex_app, M_ex_ext, M_ex_ins, M_ex_iff, M_ex_whl, M_ex_for_, M_ex_forO, M_ex_ret, M_ex_retM, M_ex_retN, M_ex_brk, M_ex_cnt, M_ex_pass, M_ex_rais, M_ex_stk, M_ex_tr, M_exs_nil, M_exs_cons, M_exh_nil, M_exh_cons, List.length_cons, List.length_nil, Nat.zero_add, Nat.reduceAdd, Nat.reduceSub, Nat.reduceLeDiff, Nat.reduceLT, if_pos, List.map_cons, List.map_nil, rb_ok, rb_none, ob_some, ob_none, sGet, List.cons_append, List.nil_append, List.replicate, cmpH, peek, look, peekV, vals_map, fzL_map, vals, cmpD, fits, fit, fitL, eqv, lf, truV, blOf, Bool.false_eq_true, if_false, if_true, List.set, asgH, esc, put, setP, getP, fz, fzL, asgH.lf', asgD, asgNs, biH, peeks, biD, lenV, newH, binH, binD, ixH, subH, toSV, toSVs, setSVs, okS, setH, setV, isOl, appH, fin_next, fin_ret, outsOf, callH, handArgs, handed, noTwice, backArgs, retH_val, retH_ol, retH_od, retH_oi, List.headD_cons, List.tail_cons, List.headD_nil, List.tail_nil, seqOf, decide_true, decide_false, Bool.and_self, Bool.true_and, Bool.and_true, Bool.false_and, Bool.and_false, Bool.not_true, Bool.not_false, Bool.or_true, Bool.or_false, Bool.true_or, Bool.false_or, List.isEmpty_cons, List.isEmpty_nil, reduceCtorEq, List.contains_nil, List.contains_cons, Nat.reduceBEq, sizeOk, atI_c0, atI_c1, atI_c2, atI_c3, atI_c4, slcD, cut_1, intOf, ix_30, ix_31, ix_32, isTy, List.any_cons, List.any_nil, isNon, isNonV, List.length_map, augD, List.getElem?_cons_zero, List.getElem?_cons_succ, Int.reduceLT, ix_10, ix_1m, ix_20, ix_21, ix_2m, ix_3m, ix_40, ix_41, ix_42, ix_43, ix_4m, ix_50, ix_51, ix_52, ix_53, ix_54, ix_5m, ix_60, ix_61, ix_62, ix_63, ix_64, ix_65, ix_6m, ix_70, ix_71, ix_72, ix_73, ix_74, ix_75, ix_76, ix_7m, ix_80, ix_81, ix_82, ix_83, ix_84, ix_85, ix_86, ix_87, ix_8m, rf0, rf1, rf2, rf3, rf4, rf5, rf6, rf7, rf8, rf9, rf10, rf11, rf12, rf13, rf14, rf15, rf16, rf17, rf18, rf19, rf20, rf21, rf22, rf23, rf24, rf25, rf26, rf27, rf28, rf29, rf30, rf31, rf32, rf33, rf34, rf35, rf36, rf37, rf38, hn, hb, varH_strm, m, q, hx, hy, hw, hh, hs1, e10, e11, ht, shD, poly]
  · refine ⟨[bx x y w h, bx (x + w + 1 + nx s1 80) (y + nx (ns s1 80) 3 * nx (ns (ns s1 80) 3) 90 - 40) (1 + nx (ns (ns (ns s1 80) 3) 90) 90) h], [], ns (ns (ns (ns s1 80) 3) 90) 90, .two nofun (by simp [bx]) nofun (by simp [bx]), ?_⟩
    simp -dsimp only [g23, f_law_shape, M_run, varH_val, varH_ol, varH_od, varH_oi, M_cx_rf, M_cx_sub, M_cx_call, seqG_next, seqG_ret, seqG_brk, seqG_cnt, nox_ok, wipe, forA_some, forK_next, forK_cnt, forK_brk, forK_ret, forK_exc, whlK_next, whlK_cnt, whlK_brk, whlK_ret, whlK_exc, whlB_t, whlB_f, lcA_some, lcB_t, lcB_f, M_ev_var, M_ev_pth, M_ev_cst, M_ev_glb, M_ev_bin, M_ev_neg, M_ev_cmp, M_ev_chn, M_ev_and, M_ev_or, M_ev_not, M_ev_iff, M_ev_tup, M_ev_lst, M_ev_ix, M_ev_slc, M_ev_rev, M_ev_call, M_ev_mth, M_ev_new, M_ev_att, M_ev_bi, M_ev_isi, M_ev_isx, M_ev_dget, M_ev_dct0, M_ev_pop, M_ev_popi, M_ev_lc, M_ev_dc, M_ev_stk, M_tst_e, M_tst_and, M_tst_or, M_tst_not, M_tstO_no, M_tstO_yes, M_evs_nil, M_evs_cons, M_evD_nil, M_evD_cons, M_evO_no, M_evO_yes, M_evI_e, M_evI_r1, M_evI_r2, M_ex_asg, M_ex_par, M_ex_mov, M_ex_aug, M_ex_sIx, M_ex_sAt, M_ex_augIx, M_ex_augAt, M_ex_exp, M_ex_app, M_ex_ext, M_ex_ins, M_ex_iff, M_ex_whl, M_ex_for_, M_ex_forO, M_ex_ret, M_ex_retM, M_ex_retN, M_ex_brk, M_ex_cnt, M_ex_pass, M_ex_rais, M_ex_stk, M_ex_tr, M_exs_nil, M_exs_cons, M_exh_nil, M_exh_cons, List.length_cons, List.length_nil, Nat.zero_add, Nat.reduceAdd, Nat.reduceSub, Nat.reduceLeDiff, Nat.reduceLT, if_pos, List.map_cons, List.map_nil, rb_ok, rb_none, ob_some, ob_none, sGet, List.cons_append, List.nil_append, List.replicate, cmpH, peek, look, peekV, vals_map, fzL_map, vals, cmpD, fits, fit, fitL, eqv, lf, truV, blOf, Bool.false_eq_true, if_false, if_true, List.set, asgH, esc, put, setP, getP, fz, fzL, asgH.lf', asgD, asgNs, biH, peeks, biD, lenV, newH, binH, binD, ixH, subH, toSV, toSVs, setSVs, okS, setH, setV, isOl, appH, fin_next, fin_ret, outsOf, callH, handArgs, handed, noTwice, backArgs, retH_val, retH_ol, retH_od, retH_oi, List.headD_cons, List.tail_cons, List.headD_nil, List.tail_nil, seqOf, decide_true, decide_false, Bool.and_self, Bool.true_and, Bool.and_true, Bool.false_and, Bool.and_false, Bool.not_true, Bool.not_false, Bool.or_true, Bool.or_false, Bool.true_or, Bool.false_or, List.isEmpty_cons, List.isEmpty_nil, reduceCtorEq, List.contains_nil, List.contains_cons, Nat.reduceBEq, sizeOk, atI_c0, atI_c1, atI_c2, atI_c3, atI_c4, slcD, cut_1, intOf, ix_30, ix_31, ix_32, isTy, List.any_cons, List.any_nil, isNon, isNonV, List.length_map, augD, List.getElem?_cons_zero, List.getElem?_cons_succ, Int.reduceLT, ix_10, ix_1m, ix_20, ix_21, ix_2m, ix_3m, ix_40, ix_41, ix_42, ix_43, ix_4m, ix_50, ix_51, ix_52, ix_53, ix_54, ix_5m, ix_60, ix_61, ix_62, ix_63, ix_64, ix_65, ix_6m, ix_70, ix_71, ix_72, ix_73, ix_74, ix_75, ix_76, ix_7m, ix_80, ix_81, ix_82, ix_83, ix_84, ix_85, ix_86, ix_87, ix_8m, rf0, rf1, rf2, rf3, rf4, rf5, rf6, rf7, rf8, rf9, rf10, rf11, rf12, rf13, rf14, rf15, rf16, rf17, rf18, rf19, rf20, rf21, rf22, rf23, rf24, rf25, rf26, rf27, rf28, rf29, rf30, rf31, rf32, rf33, rf34, rf35, rf36, rf37, rf38, hn, hb, varH_strm, m, m3, q, hx, hy, hw, hh, hs1, e20, e21, e22, shD, poly, pt, bx, Nat.reduceLeDiff]
  · generalize hc : 1 + nx s1 20 = cu
    refine ⟨[[(x + cu, y), (x + w + cu, y), (x + w + cu + cu, y + cu), (x + w + cu + cu, y + h + cu), (x + w + cu, y + h + cu + cu), (x + cu, y + h + cu + cu), (x, y + h + cu), (x, y + cu)]], [], ns s1 20, .one nofun (by simp), ?_⟩
    simp -dsimp only [g23, f_law_shape, M_run, varH_val, varH_ol, varH_od, varH_oi, M_cx_rf, M_cx_sub, M_cx_call, seqG_next, seqG_ret, seqG_brk, seqG_cnt, nox_ok, wipe, forA_some, forK_next, forK_cnt, forK_brk, forK_ret, forK_exc, whlK_next, whlK_cnt, whlK_brk, whlK_ret, whlK_exc, whlB_t, whlB_f, lcA_some, lcB_t, lcB_f, M_ev_var, M_ev_pth, M_ev_cst, M_ev_glb, M_ev_bin, M_ev_neg, M_ev_cmp, M_ev_chn, M_ev_and, M_ev_or, M_ev_not, M_ev_iff, M_ev_tup, M_ev_lst, M_ev_ix, M_ev_slc, M_ev_rev, M_ev_call, M_ev_mth, M_ev_new, M_ev_att, M_ev_bi, M_ev_isi, M_ev_isx, M_ev_dget, M_ev_dct0, M_ev_pop, M_ev_popi, M_ev_lc, M_ev_dc, M_ev_stk, M_tst_e, M_tst_and, M_tst_or, M_tst_not, M_tstO_no, M_tstO_yes, M_evs_nil, M_evs_cons, M_evD_nil, M_evD_cons, M_evO_no, M_evO_yes, M_evI_e, M_evI_r1, M_evI_r2, M_ex_asg, M_ex_par, M_ex_mov, M_ex_aug, M_ex_sIx, M_ex_sAt, M_ex_augIx, M_ex_augAt, M_ex_exp, M_ex_app, M_ex_ext, M_ex_ins, M_ex_iff, M_ex_whl, M_ex_for_, M_ex_forO, M_ex_ret, M_ex_retM, M_ex_retN, M_ex_brk, M_ex_cnt, M_ex_pass, M_ex_rais, M_ex_stk, M_ex_tr, M_exs_nil, M_exs_cons, M_exh_nil, M_exh_cons, List.length_cons, List.length_nil, Nat.zero_add, Nat.reduceAdd, Nat.reduceSub, Nat.reduceLeDiff, Nat.reduceLT, if_pos, List.map_cons, List.map_nil, rb_ok, rb_none, ob_some, ob_none, sGet, List.cons_append, List.nil_append, List.replicate, cmpH, peek, look, peekV, vals_map, fzL_map, vals, cmpD, fits, fit, fitL, eqv, lf, truV, blOf, Bool.false_eq_true, if_false, if_true, List.set, asgH, esc, put, setP, getP, fz, fzL, asgH.lf', asgD, asgNs, biH, peeks, biD, lenV, newH, binH, binD, ixH, subH, toSV, toSVs, setSVs, okS, setH, setV, isOl, appH, fin_next, fin_ret, outsOf, callH, handArgs, handed, noTwice, backArgs, retH_val, retH_ol, retH_od, retH_oi, List.headD_cons, List.tail_cons, List.headD_nil, List.tail_nil, seqOf, decide_true, decide_false, Bool.and_self, Bool.true_and, Bool.and_true, Bool.false_and, Bool.and_false, Bool.not_true, Bool.not_false, Bool.or_true, Bool.or_false, Bool.true_or, Bool.false_or, List.isEmpty_cons, List.isEmpty_nil, reduceCtorEq, List.contains_nil, List.contains_cons, Nat.reduceBEq, sizeOk, atI_c0, atI_c1, atI_c2, atI_c3, atI_c4, slcD, cut_1, intOf, ix_30, ix_31, ix_32, isTy, List.any_cons, List.any_nil, isNon, isNonV, List.length_map, augD, List.getElem?_cons_zero, List.getElem?_cons_succ, Int.reduceLT, ix_10, ix_1m, ix_20, ix_21, ix_2m, ix_3m, ix_40, ix_41, ix_42, ix_43, ix_4m, ix_50, ix_51, ix_52, ix_53, ix_54, ix_5m, ix_60, ix_61, ix_62, ix_63, ix_64, ix_65, ix_6m, ix_70, ix_71, ix_72, ix_73, ix_74, ix_75, ix_76, ix_7m, ix_80, ix_81, ix_82, ix_83, ix_84, ix_85, ix_86, ix_87, ix_8m, rf0, rf1, rf2, rf3, rf4, rf5, rf6, rf7, rf8, rf9, rf10, rf11, rf12, rf13, rf14, rf15, rf16, rf17, rf18, rf19, rf20, rf21, rf22, rf23, rf24, rf25, rf26, rf27, rf28, rf29, rf30, rf31, rf32, rf33, rf34, rf35, rf36, rf37, rf38, hn, hb, varH_strm, m, q, hx, hy, hw, hh, hs1, hc, e30, e31, e32, e33, shD, poly, pt, bx, Nat.reduceLeDiff]
  · generalize hi : x + 1 + nx s1 20 = ix
    generalize hj : y + 1 + nx (ns s1 20) 20 = iy
    refine ⟨[bx x y (ix + w + 1 + nx (ns (ns s1 20) 20) 20 - x) (iy + h + 1 + nx (ns (ns (ns s1 20) 20) 20) 20 - y)], [bx ix iy w h], ns (ns (ns (ns s1 20) 20) 20) 20, .hole nofun (by simp [bx]) nofun (by simp [bx]), ?_⟩
    simp -dsimp only [g23, f_law_shape, M_run, varH_val, varH_ol, varH_od, varH_oi, M_cx_rf, M_cx_sub, M_cx_call, seqG_next, seqG_ret, seqG_brk, seqG_cnt, nox_ok, wipe, forA_some, forK_next, forK_cnt, forK_brk, forK_ret, forK_exc, whlK_next, whlK_cnt, whlK_brk, whlK_ret, whlK_exc, whlB_t, whlB_f, lcA_some, lcB_t, lcB_f, M_ev_var, M_ev_pth, M_ev_cst, M_ev_glb, M_ev_bin, M_ev_neg, M_ev_cmp, M_ev_chn, M_ev_and, M_ev_or, M_ev_not, M_ev_iff, M_ev_tup, M_ev_lst, M_ev_ix, M_ev_slc, M_ev_rev, M_ev_call, M_ev_mth, M_ev_new, M_ev_att, M_ev_bi, M_ev_isi, M_ev_isx, M_ev_dget, M_ev_dct0, M_ev_pop, M_ev_popi, M_ev_lc, M_ev_dc, M_ev_stk, M_tst_e, M_tst_and, M_tst_or, M_tst_not, M_tstO_no, M_tstO_yes, M_evs_nil, M_evs_cons, M_evD_nil, M_evD_cons, M_evO_no, M_evO_yes, M_evI_e, M_evI_r1, M_evI_r2, M_ex_asg, M_ex_par, M_ex_mov, M_ex_aug, M_ex_sIx, M_ex_sAt, M_ex_augIx, M_ex_augAt, M_ex_exp, M_ex_app, M_ex_ext, M_ex_ins, M_ex_iff, M_ex_whl, M_ex_for_, M_ex_forO, M_ex_ret, M_ex_retM, M_ex_retN, M_ex_brk, M_ex_cnt, M_ex_pass, M_ex_rais, M_ex_stk, M_ex_tr, M_exs_nil, M_exs_cons, M_exh_nil, M_exh_cons, List.length_cons, List.length_nil, Nat.zero_add, Nat.reduceAdd, Nat.reduceSub, Nat.reduceLeDiff, Nat.reduceLT, if_pos, List.map_cons, List.map_nil, rb_ok, rb_none, ob_some, ob_none, sGet, List.cons_append, List.nil_append, List.replicate, cmpH, peek, look, peekV, vals_map, fzL_map, vals, cmpD, fits, fit, fitL, eqv, lf, truV, blOf, Bool.false_eq_true, if_false, if_true, List.set, asgH, esc, put, setP, getP, fz, fzL, asgH.lf', asgD, asgNs, biH, peeks, biD, lenV, newH, binH, binD, ixH, subH, toSV, toSVs, setSVs, okS, setH, setV, isOl, appH, fin_next, fin_ret, outsOf, callH, handArgs, handed, noTwice, backArgs, retH_val, retH_ol, retH_od, retH_oi, List.headD_cons, List.tail_cons, List.headD_nil, List.tail_nil, seqOf, decide_true, decide_false, Bool.and_self, Bool.true_and, Bool.and_true, Bool.false_and, Bool.and_false, Bool.not_true, Bool.not_false, Bool.or_true, Bool.or_false, Bool.true_or, Bool.false_or, List.isEmpty_cons, List.isEmpty_nil, reduceCtorEq, List.contains_nil, List.contains_cons, Nat.reduceBEq, sizeOk, atI_c0, atI_c1, atI_c2, atI_c3, atI_c4, slcD, cut_1, intOf, ix_30, ix_31, ix_32, isTy, List.any_cons, List.any_nil, isNon, isNonV, List.length_map, augD, List.getElem?_cons_zero, List.getElem?_cons_succ, Int.reduceLT, ix_10, ix_1m, ix_20, ix_21, ix_2m, ix_3m, ix_40, ix_41, ix_42, ix_43, ix_4m, ix_50, ix_51, ix_52, ix_53, ix_54, ix_5m, ix_60, ix_61, ix_62, ix_63, ix_64, ix_65, ix_6m, ix_70, ix_71, ix_72, ix_73, ix_74, ix_75, ix_76, ix_7m, ix_80, ix_81, ix_82, ix_83, ix_84, ix_85, ix_86, ix_87, ix_8m, rf0, rf1, rf2, rf3, rf4, rf5, rf6, rf7, rf8, rf9, rf10, rf11, rf12, rf13, rf14, rf15, rf16, rf17, rf18, rf19, rf20, rf21, rf22, rf23, rf24, rf25, rf26, rf27, rf28, rf29, rf30, rf31, rf32, rf33, rf34, rf35, rf36, rf37, rf38, hn, hb, varH_strm, m, q, hx, hy, hw, hh, hs1, hi, hj, e40, e41, e42, e43, e44, shD, poly, pt, bx, Nat.reduceLeDiff, atI_c2]
end K89
end

section
set_option maxRecDepth 100000
set_option Elab.async false
set_option linter.all false
/-! W8: walks: edges. -/
namespace K89
open Pv
structure Ed where
  b : Int
  a : Int
  d : Int
  c : Int
def ed (e : Ed) : D := .tup [.int e.b, .int e.a, .int e.d, .int e.c]
def atP (ps : List (Int × Int)) (i : Nat) : Int × Int := ps.getD i (0, 0)
def prv (n i : Nat) : Nat := if i = 0 then n - 1 else i - 1
def edAt (ps : List (Int × Int)) (i : Nat) : Ed := ⟨(atP ps (prv ps.length i)).2, (atP ps (prv ps.length i)).1, (atP ps i).2, (atP ps i).1⟩
def edsOf (ps : List (Int × Int)) : List Ed := (List.range ps.length).map (edAt ps)
theorem at_pt (ps : List (Int × Int)) (i : Nat) (h : i < ps.length) : atI (ps.map pt) (i : Int) = some (pt (atP ps i)) := by
  rw [atI_nat, List.getElem?_map, List.getElem?_eq_getElem h]
  unfold atP
  rw [List.getD_eq_getElem?_getD, List.getElem?_eq_getElem h]
  rfl
theorem at_prv (ps : List (Int × Int)) (i : Nat) (h : i < ps.length) : atI (ps.map pt) ((i : Int) - 1) = some (pt (atP ps (prv ps.length i))) := by
  unfold prv
  by_cases h0 : i = 0
  · subst h0
    rw [if_pos rfl, ← at_pt ps (ps.length - 1) (by omega)]
    unfold atI ixN
    rw [List.length_map, if_neg (by omega), if_pos (by omega), if_pos (by omega), if_pos (by omega)]
    have : ((((0 : Nat) : Int) - 1 + (ps.length : Int)).toNat) = (((ps.length - 1 : Nat) : Int)).toNat := by omega
    simp only [this]
  · rw [if_neg h0, ← at_pt ps (i - 1) (by omega)]
    congr 1
    omega
abbrev bEd : Ss := (.cons (.asg (.nm 5) (.ix (.var 2) (.bin .sub (.var 4) (.cst (.int 1))))) (.cons (.asg (.nm 6) (.ix (.var 2) (.var 4))) (.cons (.app (.var 1) (.tup (.cons (.ix (.var 5) (.cst (.int 1))) (.cons (.ix (.var 5) (.cst (.int 0))) (.cons (.ix (.var 6) (.cst (.int 1))) (.cons (.ix (.var 6) (.cst (.int 0))) .nil)))))) .nil)))
theorem ed_loop (C : Cxt) (ps : List (Int × Int)) (sh h3 : Option SV) : ∀ (l : List Nat), (∀ i ∈ l, i < ps.length) → ∀ (acc : List SV) (u v w : Option SV), acc.length + l.length ≤ 1000 → ∃ u' v' w',
    M.for_ C (.nm 4) bEd (l.map fun (k : Nat) => D.int (k : Int)) [sh, some (.ol acc), some (.val (poly ps)), h3, u, v, w] =
      some (.ok .next [sh, some (.ol (acc ++ (l.map fun i => SV.val (ed (edAt ps i))))), some (.val (poly ps)), h3, u', v', w']) := by
  intro l
  induction l with
  | nil => exact fun _ acc u v w _ => ⟨u, v, w, by rw [List.map_nil, M_for_nil]; simp⟩
  | cons i l ih =>
    intro hl acc u v w ha
    have hi : i < ps.length := hl i List.mem_cons_self
    rw [List.length_cons] at ha
    obtain ⟨u', v', w', ih'⟩ := ih (fun j hj => hl j (List.mem_cons_of_mem _ hj)) (acc ++ [.val (ed (edAt ps i))]) (some (.val (.int i))) (some (.val (pt (atP ps (prv ps.length i))))) (some (.val (pt (atP ps i)))) (by rw [List.length_append, List.length_singleton]; omega)
    refine ⟨u', v', w', ?_⟩
    have e1 := at_pt ps i hi
    have e2 := at_prv ps i hi
    have z : (acc.length + 1 ≤ 16777216) := by omega
    have e : acc ++ (i :: l).map (fun i => SV.val (ed (edAt ps i))) = (acc ++ [.val (ed (edAt ps i))]) ++ l.map fun i => SV.val (ed (edAt ps i)) := by simp
    rw [e, ← ih', List.map_cons, M_for_cons]
    unfold poly pt ed edAt
    unfold pt at e1 e2
    simp -dsimp only [M_run, varH_val, varH_ol, varH_od, varH_oi, M_cx_rf, M_cx_sub, M_cx_call, seqG_next, seqG_ret, seqG_brk, seqG_cnt, nox_ok, wipe, forA_some, forK_next, forK_cnt, forK_brk, forK_ret, forK_exc, whlK_next, whlK_cnt, whlK_brk, whlK_ret, whlK_exc, whlB_t, whlB_f, lcA_some, lcB_t, lcB_f, M_ev_var, M_ev_pth, M_ev_cst, M_ev_glb, M_ev_bin, M_ev_neg, M_ev_cmp, M_ev_chn, M_ev_and, M_ev_or, M_ev_not, M_ev_iff, M_ev_tup, M_ev_lst, M_ev_ix, M_ev_slc, M_ev_rev, M_ev_call, M_ev_mth, M_ev_new, M_ev_att, M_ev_bi, M_ev_isi, M_ev_isx, M_ev_dget, M_ev_dct0, M_ev_pop, M_ev_popi, M_ev_lc, M_ev_dc, M_ev_stk, M_tst_e, M_tst_and, M_tst_or, M_tst_not, M_tstO_no, M_tstO_yes, M_evs_nil, M_evs_cons, M_evD_nil, M_evD_cons, M_evO_no, M_evO_yes, M_evI_e, M_evI_r1, M_evI_r2, M_ex_asg, M_ex_par, M_ex_mov, M_ex_aug, M_ex_sIx, M_ex_sAt, M_ex_augIx, M_ex_augAt, M_ex_exp, M_ex_app, M_ex_ext, M_ex_ins, M_ex_iff, M_ex_whl, M_ex_for_, M_ex_forO, M_ex_ret, M_ex_retM, M_ex_retN, M_ex_brk, M_ex_cnt, M_ex_pass, M_ex_rais, M_ex_stk, M_ex_tr, M_exs_nil, M_exs_cons, M_exh_nil, M_exh_cons, List.length_cons, List.length_nil, Nat.zero_add, Nat.reduceAdd, Nat.reduceSub, Nat.reduceLeDiff, Nat.reduceLT, if_pos, List.map_cons, List.map_nil, rb_ok, rb_none, ob_some, ob_none, sGet, List.cons_append, List.nil_append, List.replicate, cmpH, peek, look, peekV, vals_map, fzL_map, vals, cmpD, fits, fit, fitL, eqv, lf, truV, blOf, Bool.false_eq_true, if_false, if_true, List.set, asgH, esc, put, setP, getP, fz, fzL, asgH.lf', asgD, asgNs, biH, peeks, biD, lenV, newH, binH, binD, ixH, subH, toSV, toSVs, setSVs, okS, setH, setV, isOl, appH, fin_next, fin_ret, outsOf, callH, handArgs, handed, noTwice, backArgs, retH_val, retH_ol, retH_od, retH_oi, List.headD_cons, List.tail_cons, List.headD_nil, List.tail_nil, seqOf, decide_true, decide_false, Bool.and_self, Bool.true_and, Bool.and_true, Bool.false_and, Bool.and_false, Bool.not_true, Bool.not_false, Bool.or_true, Bool.or_false, Bool.true_or, Bool.false_or, List.isEmpty_cons, List.isEmpty_nil, reduceCtorEq, List.contains_nil, List.contains_cons, Nat.reduceBEq, sizeOk, atI_c0, atI_c1, atI_c2, atI_c3, atI_c4, slcD, cut_1, intOf, ix_30, ix_31, ix_32, isTy, List.any_cons, List.any_nil, isNon, isNonV, List.length_map, augD, List.getElem?_cons_zero, List.getElem?_cons_succ, Int.reduceLT, ix_10, ix_1m, ix_20, ix_21, ix_2m, ix_3m, ix_40, ix_41, ix_42, ix_43, ix_4m, ix_50, ix_51, ix_52, ix_53, ix_54, ix_5m, ix_60, ix_61, ix_62, ix_63, ix_64, ix_65, ix_6m, ix_70, ix_71, ix_72, ix_73, ix_74, ix_75, ix_76, ix_7m, ix_80, ix_81, ix_82, ix_83, ix_84, ix_85, ix_86, ix_87, ix_8m, rf0, rf1, rf2, rf3, rf4, rf5, rf6, rf7, rf8, rf9, rf10, rf11, rf12, rf13, rf14, rf15, rf16, rf17, rf18, rf19, rf20, rf21, rf22, rf23, rf24, rf25, rf26, rf27, rf28, rf29, rf30, rf31, rf32, rf33, rf34, rf35, rf36, rf37, rf38, e1, e2, z, forK_next]
def fl (ps : List (List (Int × Int))) : List Ed := (ps.map edsOf).flatten
abbrev bEo : Ss := (.cons (.for_ (.nm 4) (.r1 (.bi .len (.cons (.var 2) .nil))) bEd) .nil)
theorem eo_loop (C : Cxt) (sh h3 : Option SV) : ∀ (pss : List (List (Int × Int))), (∀ ps ∈ pss, ps.length ≤ 8) → ∀ (acc : List SV) (t u v w : Option SV), acc.length + 8 * pss.length ≤ 1000 → ∃ t' u' v' w',
    M.for_ C (.nm 2) bEo (pss.map poly) [sh, some (.ol acc), t, h3, u, v, w] =
      some (.ok .next [sh, some (.ol (acc ++ (fl pss).map fun e => SV.val (ed e))), t', h3, u', v', w']) := by
  intro pss
  induction pss with
  | nil => exact fun _ acc t u v w _ => ⟨t, u, v, w, by rw [List.map_nil, M_for_nil]; simp [fl]⟩
  | cons ps pss ih =>
    intro hl acc t u v w ha
    have hi := hl ps List.mem_cons_self
    rw [List.length_cons] at ha
    obtain ⟨u1, v1, w1, h1⟩ := ed_loop C ps sh h3 (List.range ps.length) (fun i hi => List.mem_range.mp hi) acc u v w (by rw [List.length_range]; omega)
    obtain ⟨t', u', v', w', ih'⟩ := ih (fun j hj => hl j (List.mem_cons_of_mem _ hj)) (acc ++ ((List.range ps.length).map fun i => SV.val (ed (edAt ps i)))) (some (.val (poly ps))) u1 v1 w1 (by rw [List.length_append, List.length_map, List.length_range]; omega)
    refine ⟨t', u', v', w', ?_⟩
    have hr := rngK_nat (n := ps.length) (by omega)
    have e : acc ++ (fl (ps :: pss)).map (fun e => SV.val (ed e)) = (acc ++ ((List.range ps.length).map fun i => SV.val (ed (edAt ps i)))) ++ (fl pss).map fun e => SV.val (ed e) := by
      simp only [fl, List.map_cons, List.flatten_cons, List.map_append, List.append_assoc, edsOf, List.map_map, Function.comp_def]
    rw [e, ← ih', List.map_cons, M_for_cons]
    unfold poly at h1 ⊢
    simp -dsimp only [M_run, varH_val, varH_ol, varH_od, varH_oi, M_cx_rf, M_cx_sub, M_cx_call, seqG_next, seqG_ret, seqG_brk, seqG_cnt, nox_ok, wipe, forA_some, forK_next, forK_cnt, forK_brk, forK_ret, forK_exc, whlK_next, whlK_cnt, whlK_brk, whlK_ret, whlK_exc, whlB_t, whlB_f, lcA_some, lcB_t, lcB_f, M_ev_var, M_ev_pth, M_ev_cst, M_ev_glb, M_ev_bin, M_ev_neg, M_ev_cmp, M_ev_chn, M_ev_and, M_ev_or, M_ev_not, M_ev_iff, M_ev_tup, M_ev_lst, M_ev_ix, M_ev_slc, M_ev_rev, M_ev_call, M_ev_mth, M_ev_new, M_ev_att, M_ev_bi, M_ev_isi, M_ev_isx, M_ev_dget, M_ev_dct0, M_ev_pop, M_ev_popi, M_ev_lc, M_ev_dc, M_ev_stk, M_tst_e, M_tst_and, M_tst_or, M_tst_not, M_tstO_no, M_tstO_yes, M_evs_nil, M_evs_cons, M_evD_nil, M_evD_cons, M_evO_no, M_evO_yes, M_evI_e, M_evI_r1, M_evI_r2, M_ex_asg, M_ex_par, M_ex_mov, M_ex_aug, M_ex_sIx, M_ex_sAt, M_ex_augIx, M_ex_augAt, M_ex_exp, M_ex_app, M_ex_ext, M_ex_ins, M_ex_iff, M_ex_whl, M_ex_for_, M_ex_forO, M_ex_ret, M_ex_retM, M_ex_retN, M_ex_brk, M_ex_cnt, M_ex_pass, M_ex_rais, M_ex_stk, M_ex_tr, M_exs_nil, M_exs_cons, M_exh_nil, M_exh_cons, List.length_cons, List.length_nil, Nat.zero_add, Nat.reduceAdd, Nat.reduceSub, Nat.reduceLeDiff, Nat.reduceLT, if_pos, List.map_cons, List.map_nil, rb_ok, rb_none, ob_some, ob_none, sGet, List.cons_append, List.nil_append, List.replicate, cmpH, peek, look, peekV, vals_map, fzL_map, vals, cmpD, fits, fit, fitL, eqv, lf, truV, blOf, Bool.false_eq_true, if_false, if_true, List.set, asgH, esc, put, setP, getP, fz, fzL, asgH.lf', asgD, asgNs, biH, peeks, biD, lenV, newH, binH, binD, ixH, subH, toSV, toSVs, setSVs, okS, setH, setV, isOl, appH, fin_next, fin_ret, outsOf, callH, handArgs, handed, noTwice, backArgs, retH_val, retH_ol, retH_od, retH_oi, List.headD_cons, List.tail_cons, List.headD_nil, List.tail_nil, seqOf, decide_true, decide_false, Bool.and_self, Bool.true_and, Bool.and_true, Bool.false_and, Bool.and_false, Bool.not_true, Bool.not_false, Bool.or_true, Bool.or_false, Bool.true_or, Bool.false_or, List.isEmpty_cons, List.isEmpty_nil, reduceCtorEq, List.contains_nil, List.contains_cons, Nat.reduceBEq, sizeOk, atI_c0, atI_c1, atI_c2, atI_c3, atI_c4, slcD, cut_1, intOf, ix_30, ix_31, ix_32, isTy, List.any_cons, List.any_nil, isNon, isNonV, List.length_map, augD, List.getElem?_cons_zero, List.getElem?_cons_succ, Int.reduceLT, ix_10, ix_1m, ix_20, ix_21, ix_2m, ix_3m, ix_40, ix_41, ix_42, ix_43, ix_4m, ix_50, ix_51, ix_52, ix_53, ix_54, ix_5m, ix_60, ix_61, ix_62, ix_63, ix_64, ix_65, ix_6m, ix_70, ix_71, ix_72, ix_73, ix_74, ix_75, ix_76, ix_7m, ix_80, ix_81, ix_82, ix_83, ix_84, ix_85, ix_86, ix_87, ix_8m, rf0, rf1, rf2, rf3, rf4, rf5, rf6, rf7, rf8, rf9, rf10, rf11, rf12, rf13, rf14, rf15, rf16, rf17, rf18, rf19, rf20, rf21, rf22, rf23, rf24, rf25, rf26, rf27, rf28, rf29, rf30, rf31, rf32, rf33, rf34, rf35, rf36, rf37, rf38, hr, h1, forK_next]
theorem rev_lc (C : Cxt) (a b c d e f : Option SV) : ∀ (hs : List (List (Int × Int))), M.lc C [3] (.nm 3) .no (.rev (.var 3)) (hs.map poly) [a, b, c, none, d, e, f] = some (.ok (hs.map fun h => poly h.reverse) [a, b, c, none, d, e, f]) := by
  intro hs
  induction hs with
  | nil => rw [List.map_nil, M_lc_nil]; rfl
  | cons h hs ih =>
    have e : poly h.reverse = .lst (h.map pt).reverse := by unfold poly; rw [List.map_reverse]
    rw [List.map_cons, M_lc_cons, List.map_cons, e]
    have e2 : poly h = .lst (h.map pt) := rfl
    simp -dsimp only [M_run, varH_val, varH_ol, varH_od, varH_oi, M_cx_rf, M_cx_sub, M_cx_call, seqG_next, seqG_ret, seqG_brk, seqG_cnt, nox_ok, wipe, forA_some, forK_next, forK_cnt, forK_brk, forK_ret, forK_exc, whlK_next, whlK_cnt, whlK_brk, whlK_ret, whlK_exc, whlB_t, whlB_f, lcA_some, lcB_t, lcB_f, M_ev_var, M_ev_pth, M_ev_cst, M_ev_glb, M_ev_bin, M_ev_neg, M_ev_cmp, M_ev_chn, M_ev_and, M_ev_or, M_ev_not, M_ev_iff, M_ev_tup, M_ev_lst, M_ev_ix, M_ev_slc, M_ev_rev, M_ev_call, M_ev_mth, M_ev_new, M_ev_att, M_ev_bi, M_ev_isi, M_ev_isx, M_ev_dget, M_ev_dct0, M_ev_pop, M_ev_popi, M_ev_lc, M_ev_dc, M_ev_stk, M_tst_e, M_tst_and, M_tst_or, M_tst_not, M_tstO_no, M_tstO_yes, M_evs_nil, M_evs_cons, M_evD_nil, M_evD_cons, M_evO_no, M_evO_yes, M_evI_e, M_evI_r1, M_evI_r2, M_ex_asg, M_ex_par, M_ex_mov, M_ex_aug, M_ex_sIx, M_ex_sAt, M_ex_augIx, M_ex_augAt, M_ex_exp, M_ex_app, M_ex_ext, M_ex_ins, M_ex_iff, M_ex_whl, M_ex_for_, M_ex_forO, M_ex_ret, M_ex_retM, M_ex_retN, M_ex_brk, M_ex_cnt, M_ex_pass, M_ex_rais, M_ex_stk, M_ex_tr, M_exs_nil, M_exs_cons, M_exh_nil, M_exh_cons, List.length_cons, List.length_nil, Nat.zero_add, Nat.reduceAdd, Nat.reduceSub, Nat.reduceLeDiff, Nat.reduceLT, if_pos, List.map_cons, List.map_nil, rb_ok, rb_none, ob_some, ob_none, sGet, List.cons_append, List.nil_append, List.replicate, cmpH, peek, look, peekV, vals_map, fzL_map, vals, cmpD, fits, fit, fitL, eqv, lf, truV, blOf, Bool.false_eq_true, if_false, if_true, List.set, asgH, esc, put, setP, getP, fz, fzL, asgH.lf', asgD, asgNs, biH, peeks, biD, lenV, newH, binH, binD, ixH, subH, toSV, toSVs, setSVs, okS, setH, setV, isOl, appH, fin_next, fin_ret, outsOf, callH, handArgs, handed, noTwice, backArgs, retH_val, retH_ol, retH_od, retH_oi, List.headD_cons, List.tail_cons, List.headD_nil, List.tail_nil, seqOf, decide_true, decide_false, Bool.and_self, Bool.true_and, Bool.and_true, Bool.false_and, Bool.and_false, Bool.not_true, Bool.not_false, Bool.or_true, Bool.or_false, Bool.true_or, Bool.false_or, List.isEmpty_cons, List.isEmpty_nil, reduceCtorEq, List.contains_nil, List.contains_cons, Nat.reduceBEq, sizeOk, atI_c0, atI_c1, atI_c2, atI_c3, atI_c4, slcD, cut_1, intOf, ix_30, ix_31, ix_32, isTy, List.any_cons, List.any_nil, isNon, isNonV, List.length_map, augD, List.getElem?_cons_zero, List.getElem?_cons_succ, Int.reduceLT, ix_10, ix_1m, ix_20, ix_21, ix_2m, ix_3m, ix_40, ix_41, ix_42, ix_43, ix_4m, ix_50, ix_51, ix_52, ix_53, ix_54, ix_5m, ix_60, ix_61, ix_62, ix_63, ix_64, ix_65, ix_6m, ix_70, ix_71, ix_72, ix_73, ix_74, ix_75, ix_76, ix_7m, ix_80, ix_81, ix_82, ix_83, ix_84, ix_85, ix_86, ix_87, ix_8m, rf0, rf1, rf2, rf3, rf4, rf5, rf6, rf7, rf8, rf9, rf10, rf11, rf12, rf13, rf14, rf15, rf16, rf17, rf18, rf19, rf20, rf21, rf22, rf23, rf24, rf25, rf26, rf27, rf28, rf29, rf30, rf31, rf32, rf33, rf34, rf35, rf36, rf37, rf38, revD, fzL_map, ih, e2]
theorem fit_ed (e : Ed) : fit (ed e) 64 = true := by simp [ed, fit, fitL]
theorem alk_ed (e f : Ed) : alk (ed e) (ed f) = true := by simp [ed, alk, alkL]
theorem srt_ed (es : List Ed) : srtOk (es.map ed) = true := by
  unfold srtOk
  rw [Bool.and_eq_true]
  constructor
  · rw [List.all_eq_true]
    intro x hx
    obtain ⟨e, he, rfl⟩ := List.mem_map.mp hx
    rw [Bool.and_eq_true]
    refine ⟨fit_ed e, ?_⟩
    rw [List.all_eq_true]
    intro y hy
    obtain ⟨f, hf, rfl⟩ := List.mem_map.mp hy
    exact alk_ed e f
  · rw [Bool.or_eq_true]
    left
    rw [List.all_eq_true]
    intro x hx
    obtain ⟨e, he, rfl⟩ := List.mem_map.mp hx
    rfl
theorem w_edges (k : Nat) (ps hs : List (List (Int × Int))) (h : ShOk ps hs) : ∃ es : List Ed, es.Perm (fl (ps ++ hs.map List.reverse)) ∧ M.call prog (k+1) 24 [.val (shD ps hs)] = some (.ok (.ol ((es.map ed).map SV.val)) []) := by
  obtain ⟨h1, h2, h3⟩ := h
  have e0 : ∀ q ∈ ps ++ hs.map List.reverse, q.length ≤ 8 := by
    intro q hq
    rcases List.mem_append.mp hq with hq | hq
    · exact (h3 q (List.mem_append_left _ hq)).2
    · obtain ⟨r, hr, rfl⟩ := List.mem_map.mp hq
      rw [List.length_reverse]
      exact (h3 r (List.mem_append_right _ hr)).2
  have z : (ps.length + hs.length ≤ 16777216) := by omega
  have z2 : (hs.length ≤ 16777216) := by omega
  obtain ⟨t', u', v', w', hl⟩ := eo_loop (M.cx prog k) (some (.val (shD ps hs))) none (ps ++ hs.map List.reverse) e0 [] none none none none (by simp only [List.length_nil, List.length_append, List.length_map]; omega)
  refine ⟨(fl (ps ++ hs.map List.reverse)).mergeSort (fun a b => !ltd (ed b) (ed a)), List.mergeSort_perm _ _, ?_⟩
  have em : ((fl (ps ++ hs.map List.reverse)).map ed).mergeSort (fun a b => !ltd b a) = ((fl (ps ++ hs.map List.reverse)).mergeSort (fun a b => !ltd (ed b) (ed a))).map ed := by
    rw [List.map_mergeSort]
    intros; rfl
  have hv : vals (List.map (fun e => SV.val (ed e)) (fl (ps ++ hs.map List.reverse))) = some ((fl (ps ++ hs.map List.reverse)).map ed) := by
    have := vals_map ((fl (ps ++ hs.map List.reverse)).map ed)
    rwa [List.map_map] at this
  have hr := rev_lc (M.cx prog k) (some (.val (shD ps hs))) (some (.ol [])) none none none none hs
  rw [List.nil_append, List.map_append, List.map_map] at hl
  have hl' : M.for_ (M.cx prog k) (.nm 2) bEo (ps.map poly ++ hs.map fun h => poly h.reverse) [some (.val (shD ps hs)), some (.ol []), none, none, none, none, none] = _ := hl
  unfold shD at hr hl' ⊢
  have hz := vals_map (hs.map fun h => poly h.reverse)
  simp -dsimp only [g24, f_law_edges, M_run, varH_val, varH_ol, varH_od, varH_oi, M_cx_rf, M_cx_sub, M_cx_call, seqG_next, seqG_ret, seqG_brk, seqG_cnt, nox_ok, wipe, forA_some, forK_next, forK_cnt, forK_brk, forK_ret, forK_exc, whlK_next, whlK_cnt, whlK_brk, whlK_ret, whlK_exc, whlB_t, whlB_f, lcA_some, lcB_t, lcB_f, M_ev_var, M_ev_pth, M_ev_cst, M_ev_glb, M_ev_bin, M_ev_neg, M_ev_cmp, M_ev_chn, M_ev_and, M_ev_or, M_ev_not, M_ev_iff, M_ev_tup, M_ev_lst, M_ev_ix, M_ev_slc, M_ev_rev, M_ev_call, M_ev_mth, M_ev_new, M_ev_att, M_ev_bi, M_ev_isi, M_ev_isx, M_ev_dget, M_ev_dct0, M_ev_pop, M_ev_popi, M_ev_lc, M_ev_dc, M_ev_stk, M_tst_e, M_tst_and, M_tst_or, M_tst_not, M_tstO_no, M_tstO_yes, M_evs_nil, M_evs_cons, M_evD_nil, M_evD_cons, M_evO_no, M_evO_yes, M_evI_e, M_evI_r1, M_evI_r2, M_ex_asg, M_ex_par, M_ex_mov, M_ex_aug, M_ex_sIx, M_ex_sAt, M_ex_augIx, M_ex_augAt, M_ex_exp, M_ex_app, M_ex_ext, M_ex_ins, M_ex_iff, M_ex_whl, M_ex_for_, M_ex_forO, M_ex_ret, M_ex_retM, M_ex_retN, M_ex_brk, M_ex_cnt, M_ex_pass, M_ex_rais, M_ex_stk, M_ex_tr, M_exs_nil, M_exs_cons, M_exh_nil, M_exh_cons, List.length_cons, List.length_nil, Nat.zero_add, Nat.reduceAdd, Nat.reduceSub, Nat.reduceLeDiff, Nat.reduceLT, if_pos, List.map_cons, List.map_nil, rb_ok, rb_none, ob_some, ob_none, sGet, List.cons_append, List.nil_append, List.replicate, cmpH, peek, look, peekV, vals_map, fzL_map, vals, cmpD, fits, fit, fitL, eqv, lf, truV, blOf, Bool.false_eq_true, if_false, if_true, List.set, asgH, esc, put, setP, getP, fz, fzL, asgH.lf', asgD, asgNs, biH, peeks, biD, lenV, newH, binH, binD, ixH, subH, toSV, toSVs, setSVs, okS, setH, setV, isOl, appH, fin_next, fin_ret, outsOf, callH, handArgs, handed, noTwice, backArgs, retH_val, retH_ol, retH_od, retH_oi, List.headD_cons, List.tail_cons, List.headD_nil, List.tail_nil, seqOf, decide_true, decide_false, Bool.and_self, Bool.true_and, Bool.and_true, Bool.false_and, Bool.and_false, Bool.not_true, Bool.not_false, Bool.or_true, Bool.or_false, Bool.true_or, Bool.false_or, List.isEmpty_cons, List.isEmpty_nil, reduceCtorEq, List.contains_nil, List.contains_cons, Nat.reduceBEq, sizeOk, atI_c0, atI_c1, atI_c2, atI_c3, atI_c4, slcD, cut_1, intOf, ix_30, ix_31, ix_32, isTy, List.any_cons, List.any_nil, isNon, isNonV, List.length_map, augD, List.getElem?_cons_zero, List.getElem?_cons_succ, Int.reduceLT, ix_10, ix_1m, ix_20, ix_21, ix_2m, ix_3m, ix_40, ix_41, ix_42, ix_43, ix_4m, ix_50, ix_51, ix_52, ix_53, ix_54, ix_5m, ix_60, ix_61, ix_62, ix_63, ix_64, ix_65, ix_6m, ix_70, ix_71, ix_72, ix_73, ix_74, ix_75, ix_76, ix_7m, ix_80, ix_81, ix_82, ix_83, ix_84, ix_85, ix_86, ix_87, ix_8m, rf0, rf1, rf2, rf3, rf4, rf5, rf6, rf7, rf8, rf9, rf10, rf11, rf12, rf13, rf14, rf15, rf16, rf17, rf18, rf19, rf20, rf21, rf22, rf23, rf24, rf25, rf26, rf27, rf28, rf29, rf30, rf31, rf32, rf33, rf34, rf35, rf36, rf37, rf38, hr, hz, hl', z, z2, List.length_append, hv, srt_ed, em]
end K89
end

section
set_option maxRecDepth 100000
set_option Elab.async false
set_option linter.all false
/-! W9: walks: borders, glyphs. -/
namespace K89
open Pv
structure Sg where
  x : Int
  y : Int
  z : Int
  w : Int
section
variable {N : Int} [hN : Nice N]
def sg (N : Int) (s : Sg) : D := .tup [.tup [fr N s.x, fr N s.y], .tup [fr N s.z, fr N s.w]]
def mk (N : Int) (m : List Sg) : D := .tup (m.map (sg N))
def sgM (u sh : Int) (e : Ed) : Sg := ⟨e.a * u + sh, e.b * u, e.c * u + sh, e.d * u⟩
def bdM (u sh : Int) (es : List Ed) : List Sg := es.map (sgM u sh)
abbrev bBd : Ss := (.cons (.asg (.nm 8) (.tup (.cons (.call 18 (.cons (.tup (.cons (.var 5) (.cons (.var 1) .nil))) (.cons (.var 2) .nil))) (.cons (.call 17 (.cons (.var 4) (.cons (.var 1) .nil))) .nil)))) (.cons (.asg (.nm 9) (.tup (.cons (.call 18 (.cons (.tup (.cons (.var 7) (.cons (.var 1) .nil))) (.cons (.var 2) .nil))) (.cons (.call 17 (.cons (.var 6) (.cons (.var 1) .nil))) .nil)))) (.cons (.app (.var 3) (.tup (.cons (.var 8) (.cons (.var 9) .nil)))) .nil)))
theorem bd_loop (k : Nat) (p u sh : Int) (hp : 0 < p) (hu : u * p = N) (hu0 : 0 < u) (x : Option SV) : ∀ (es : List Ed) (acc : List SV) (a4 a5 a6 a7 a8 a9 : Option SV), acc.length + es.length ≤ 1000 → ∃ a4' a5' a6' a7' a8' a9',
    M.for_ (M.cx prog (k+2)) (.tp [4, 5, 6, 7]) bBd (es.map ed) [x, some (.val (.int p)), some (.val (fr N sh)), some (.ol acc), a4, a5, a6, a7, a8, a9] =
      some (.ok .next [x, some (.val (.int p)), some (.val (fr N sh)), some (.ol (acc ++ (bdM u sh es).map fun s => SV.val (sg N s))), a4', a5', a6', a7', a8', a9']) := by
  have hple : p ≤ N := by rw [← hu]; have := Int.mul_le_mul_of_nonneg_right (show 1 ≤ u by omega) (show 0 ≤ p by omega); omega
  have hpn := hN.lt
  intro es
  induction es with
  | nil => exact fun acc a4 a5 a6 a7 a8 a9 _ => ⟨a4, a5, a6, a7, a8, a9, by rw [List.map_nil, M_for_nil]; simp [bdM]⟩
  | cons e es ih =>
    intro acc a4 a5 a6 a7 a8 a9 ha
    rw [List.length_cons] at ha
    obtain ⟨a4', a5', a6', a7', a8', a9', ih'⟩ := ih (acc ++ [.val (sg N (sgM u sh e))]) (some (.val (.int e.b))) (some (.val (.int e.a))) (some (.val (.int e.d))) (some (.val (.int e.c))) (some (.val (.tup [fr N (e.a * u + sh), fr N (e.b * u)]))) (some (.val (.tup [fr N (e.c * u + sh), fr N (e.d * u)]))) (by rw [List.length_append, List.length_singleton]; omega)
    refine ⟨a4', a5', a6', a7', a8', a9', ?_⟩
    have z : (acc.length + 1 ≤ 16777216) := by omega
    have hE : acc ++ (bdM u sh (e :: es)).map (fun s => SV.val (sg N s)) = (acc ++ [.val (sg N (sgM u sh e))]) ++ (bdM u sh es).map fun s => SV.val (sg N s) := by simp [bdM]
    have fz : ∀ t : Int, t * N = (t * u) * p := fun t => by rw [← hu, Int.mul_assoc]
    have hf : ∀ t : Int, M.call prog (k+2) 17 [.val (.int t), .val (.int p)] = some (.ok (.val (fr N (t * u))) []) := fun t => w_lfraction (k+1) t p (t * u) (by omega) (by omega) (fz t)
    have hq : ∀ t : Int, M.call prog (k+2) 18 [.val (.tup [.int t, .int p]), .val (fr N sh)] = some (.ok (.val (fr N (t * u + sh))) []) := fun t => w_lplus k (p := .tup [.int t, .int p]) ⟨t, p, rfl, hp, hple, fz t⟩ (Fc.fr N sh)
    rw [hE, ← ih', List.map_cons, M_for_cons]
    unfold ed sg sgM
    simp -dsimp only [M_run, varH_val, varH_ol, varH_od, varH_oi, M_cx_rf, M_cx_sub, M_cx_call, seqG_next, seqG_ret, seqG_brk, seqG_cnt, nox_ok, wipe, forA_some, forK_next, forK_cnt, forK_brk, forK_ret, forK_exc, whlK_next, whlK_cnt, whlK_brk, whlK_ret, whlK_exc, whlB_t, whlB_f, lcA_some, lcB_t, lcB_f, M_ev_var, M_ev_pth, M_ev_cst, M_ev_glb, M_ev_bin, M_ev_neg, M_ev_cmp, M_ev_chn, M_ev_and, M_ev_or, M_ev_not, M_ev_iff, M_ev_tup, M_ev_lst, M_ev_ix, M_ev_slc, M_ev_rev, M_ev_call, M_ev_mth, M_ev_new, M_ev_att, M_ev_bi, M_ev_isi, M_ev_isx, M_ev_dget, M_ev_dct0, M_ev_pop, M_ev_popi, M_ev_lc, M_ev_dc, M_ev_stk, M_tst_e, M_tst_and, M_tst_or, M_tst_not, M_tstO_no, M_tstO_yes, M_evs_nil, M_evs_cons, M_evD_nil, M_evD_cons, M_evO_no, M_evO_yes, M_evI_e, M_evI_r1, M_evI_r2, M_ex_asg, M_ex_par, M_ex_mov, M_ex_aug, M_ex_sIx, M_ex_sAt, M_ex_augIx, M_ex_augAt, M_ex_exp, M_ex_app, M_ex_ext, M_ex_ins, M_ex_iff, M_ex_whl, M_ex_for_, M_ex_forO, M_ex_ret, M_ex_retM, M_ex_retN, M_ex_brk, M_ex_cnt, M_ex_pass, M_ex_rais, M_ex_stk, M_ex_tr, M_exs_nil, M_exs_cons, M_exh_nil, M_exh_cons, List.length_cons, List.length_nil, Nat.zero_add, Nat.reduceAdd, Nat.reduceSub, Nat.reduceLeDiff, Nat.reduceLT, if_pos, List.map_cons, List.map_nil, rb_ok, rb_none, ob_some, ob_none, sGet, List.cons_append, List.nil_append, List.replicate, cmpH, peek, look, peekV, vals_map, fzL_map, vals, cmpD, fits, fit, fitL, eqv, lf, truV, blOf, Bool.false_eq_true, if_false, if_true, List.set, asgH, esc, put, setP, getP, fz, fzL, asgH.lf', asgD, asgNs, biH, peeks, biD, lenV, newH, binH, binD, ixH, subH, toSV, toSVs, setSVs, okS, setH, setV, isOl, appH, fin_next, fin_ret, outsOf, callH, handArgs, handed, noTwice, backArgs, retH_val, retH_ol, retH_od, retH_oi, List.headD_cons, List.tail_cons, List.headD_nil, List.tail_nil, seqOf, decide_true, decide_false, Bool.and_self, Bool.true_and, Bool.and_true, Bool.false_and, Bool.and_false, Bool.not_true, Bool.not_false, Bool.or_true, Bool.or_false, Bool.true_or, Bool.false_or, List.isEmpty_cons, List.isEmpty_nil, reduceCtorEq, List.contains_nil, List.contains_cons, Nat.reduceBEq, sizeOk, atI_c0, atI_c1, atI_c2, atI_c3, atI_c4, slcD, cut_1, intOf, ix_30, ix_31, ix_32, isTy, List.any_cons, List.any_nil, isNon, isNonV, List.length_map, augD, List.getElem?_cons_zero, List.getElem?_cons_succ, Int.reduceLT, ix_10, ix_1m, ix_20, ix_21, ix_2m, ix_3m, ix_40, ix_41, ix_42, ix_43, ix_4m, ix_50, ix_51, ix_52, ix_53, ix_54, ix_5m, ix_60, ix_61, ix_62, ix_63, ix_64, ix_65, ix_6m, ix_70, ix_71, ix_72, ix_73, ix_74, ix_75, ix_76, ix_7m, ix_80, ix_81, ix_82, ix_83, ix_84, ix_85, ix_86, ix_87, ix_8m, rf0, rf1, rf2, rf3, rf4, rf5, rf6, rf7, rf8, rf9, rf10, rf11, rf12, rf13, rf14, rf15, rf16, rf17, rf18, rf19, rf20, rf21, rf22, rf23, rf24, rf25, rf26, rf27, rf28, rf29, rf30, rf31, rf32, rf33, rf34, rf35, rf36, rf37, rf38, hf, hq, z, forK_next]
theorem w_border (k : Nat) (p u sh : Int) (hp : 0 < p) (hu : u * p = N) (hu0 : 0 < u) (es : List Ed) (hl : es.length ≤ 1000) : M.call prog (k+3) 25 [.val (.lst (es.map ed)), .val (.int p), .val (fr N sh)] = some (.ok (.val (mk N (bdM u sh es))) []) := by
  obtain ⟨a4', a5', a6', a7', a8', a9', h⟩ := bd_loop k p u sh hp hu hu0 (some (.val (.lst (es.map ed)))) es [] none none none none none none (by simpa using hl)
  have hv : vals (List.map (fun s => SV.val (sg N s)) (bdM u sh es)) = some ((bdM u sh es).map (sg N)) := by
    have := vals_map ((bdM u sh es).map (sg N))
    rwa [List.map_map] at this
  rw [List.nil_append] at h
  simp -dsimp only [g25, f_law_border, M_run, varH_val, varH_ol, varH_od, varH_oi, M_cx_rf, M_cx_sub, M_cx_call, seqG_next, seqG_ret, seqG_brk, seqG_cnt, nox_ok, wipe, forA_some, forK_next, forK_cnt, forK_brk, forK_ret, forK_exc, whlK_next, whlK_cnt, whlK_brk, whlK_ret, whlK_exc, whlB_t, whlB_f, lcA_some, lcB_t, lcB_f, M_ev_var, M_ev_pth, M_ev_cst, M_ev_glb, M_ev_bin, M_ev_neg, M_ev_cmp, M_ev_chn, M_ev_and, M_ev_or, M_ev_not, M_ev_iff, M_ev_tup, M_ev_lst, M_ev_ix, M_ev_slc, M_ev_rev, M_ev_call, M_ev_mth, M_ev_new, M_ev_att, M_ev_bi, M_ev_isi, M_ev_isx, M_ev_dget, M_ev_dct0, M_ev_pop, M_ev_popi, M_ev_lc, M_ev_dc, M_ev_stk, M_tst_e, M_tst_and, M_tst_or, M_tst_not, M_tstO_no, M_tstO_yes, M_evs_nil, M_evs_cons, M_evD_nil, M_evD_cons, M_evO_no, M_evO_yes, M_evI_e, M_evI_r1, M_evI_r2, M_ex_asg, M_ex_par, M_ex_mov, M_ex_aug, M_ex_sIx, M_ex_sAt, M_ex_augIx, M_ex_augAt, M_ex_exp, M_ex_app, M_ex_ext, M_ex_ins, M_ex_iff, M_ex_whl, M_ex_for_, M_ex_forO, M_ex_ret, M_ex_retM, M_ex_retN, M_ex_brk, M_ex_cnt, M_ex_pass, M_ex_rais, M_ex_stk, M_ex_tr, M_exs_nil, M_exs_cons, M_exh_nil, M_exh_cons, List.length_cons, List.length_nil, Nat.zero_add, Nat.reduceAdd, Nat.reduceSub, Nat.reduceLeDiff, Nat.reduceLT, if_pos, List.map_cons, List.map_nil, rb_ok, rb_none, ob_some, ob_none, sGet, List.cons_append, List.nil_append, List.replicate, cmpH, peek, look, peekV, vals_map, fzL_map, vals, cmpD, fits, fit, fitL, eqv, lf, truV, blOf, Bool.false_eq_true, if_false, if_true, List.set, asgH, esc, put, setP, getP, fz, fzL, asgH.lf', asgD, asgNs, biH, peeks, biD, lenV, newH, binH, binD, ixH, subH, toSV, toSVs, setSVs, okS, setH, setV, isOl, appH, fin_next, fin_ret, outsOf, callH, handArgs, handed, noTwice, backArgs, retH_val, retH_ol, retH_od, retH_oi, List.headD_cons, List.tail_cons, List.headD_nil, List.tail_nil, seqOf, decide_true, decide_false, Bool.and_self, Bool.true_and, Bool.and_true, Bool.false_and, Bool.and_false, Bool.not_true, Bool.not_false, Bool.or_true, Bool.or_false, Bool.true_or, Bool.false_or, List.isEmpty_cons, List.isEmpty_nil, reduceCtorEq, List.contains_nil, List.contains_cons, Nat.reduceBEq, sizeOk, atI_c0, atI_c1, atI_c2, atI_c3, atI_c4, slcD, cut_1, intOf, ix_30, ix_31, ix_32, isTy, List.any_cons, List.any_nil, isNon, isNonV, List.length_map, augD, List.getElem?_cons_zero, List.getElem?_cons_succ, Int.reduceLT, ix_10, ix_1m, ix_20, ix_21, ix_2m, ix_3m, ix_40, ix_41, ix_42, ix_43, ix_4m, ix_50, ix_51, ix_52, ix_53, ix_54, ix_5m, ix_60, ix_61, ix_62, ix_63, ix_64, ix_65, ix_6m, ix_70, ix_71, ix_72, ix_73, ix_74, ix_75, ix_76, ix_7m, ix_80, ix_81, ix_82, ix_83, ix_84, ix_85, ix_86, ix_87, ix_8m, rf0, rf1, rf2, rf3, rf4, rf5, rf6, rf7, rf8, rf9, rf10, rf11, rf12, rf13, rf14, rf15, rf16, rf17, rf18, rf19, rf20, rf21, rf22, rf23, rf24, rf25, rf26, rf27, rf28, rf29, rf30, rf31, rf32, rf33, rf34, rf35, rf36, rf37, rf38, h, hv, mk]
/-! ### least -/
theorem minI_ok : ∀ (is : List Int), is ≠ [] → ∃ m, minI is = some m ∧ m ∈ is ∧ ∀ i ∈ is, m ≤ i := by
  have key : ∀ (l : List Int) (a : Int), (l.foldl (fun a b => if b < a then b else a) a = a ∨ l.foldl (fun a b => if b < a then b else a) a ∈ l) ∧ l.foldl (fun a b => if b < a then b else a) a ≤ a ∧ ∀ i ∈ l, l.foldl (fun a b => if b < a then b else a) a ≤ i := by
    intro l
    induction l with
    | nil => intro a; simp
    | cons b l ih =>
      intro a
      obtain ⟨h1, h2, h3⟩ := ih (if b < a then b else a)
      simp only [List.foldl_cons]
      refine ⟨?_, ?_, ?_⟩
      · rcases h1 with h1 | h1
        · rw [h1]
          by_cases q : b < a
          · rw [if_pos q]; exact .inr List.mem_cons_self
          · rw [if_neg q]; exact .inl rfl
        · exact .inr (List.mem_cons_of_mem _ h1)
      · by_cases q : b < a
        · rw [if_pos q] at h2 ⊢; omega
        · rw [if_neg q] at h2 ⊢; exact h2
      · intro i hi
        rcases List.mem_cons.mp hi with rfl | hi
        · by_cases q : i < a
          · rw [if_pos q] at h2 ⊢; exact h2
          · rw [if_neg q] at h2 ⊢; omega
        · exact h3 i hi
  intro is h
  cases is with
  | nil => exact absurd rfl h
  | cons a l =>
    obtain ⟨h1, h2, h3⟩ := key l a
    refine ⟨_, rfl, ?_, ?_⟩
    · rcases h1 with h1 | h1
      · rw [h1]; exact List.mem_cons_self
      · exact List.mem_cons_of_mem _ h1
    · intro i hi
      rcases List.mem_cons.mp hi with rfl | hi
      · exact h2
      · exact h3 i hi
theorem intsOf_map (is : List Int) : intsOf (is.map D.int) = some is := by
  induction is with
  | nil => rfl
  | cons i is ih => simp only [List.map_cons, intsOf, ih]
theorem least_lc (C : Cxt) (a : Option SV) : ∀ es : List Ed, M.lc C [1] (.nm 1) .no (.bi .min (.cons (.ix (.var 1) (.cst (.int 1))) (.cons (.ix (.var 1) (.cst (.int 3))) .nil))) (es.map ed) [a, none] = some (.ok (es.map fun e => .int (if e.c < e.a then e.c else e.a)) [a, none]) := by
  intro es
  induction es with
  | nil => rw [List.map_nil, M_lc_nil]; rfl
  | cons e es ih =>
    rw [List.map_cons, M_lc_cons, List.map_cons]
    unfold ed at ih ⊢
    simp -dsimp only [M_run, varH_val, varH_ol, varH_od, varH_oi, M_cx_rf, M_cx_sub, M_cx_call, seqG_next, seqG_ret, seqG_brk, seqG_cnt, nox_ok, wipe, forA_some, forK_next, forK_cnt, forK_brk, forK_ret, forK_exc, whlK_next, whlK_cnt, whlK_brk, whlK_ret, whlK_exc, whlB_t, whlB_f, lcA_some, lcB_t, lcB_f, M_ev_var, M_ev_pth, M_ev_cst, M_ev_glb, M_ev_bin, M_ev_neg, M_ev_cmp, M_ev_chn, M_ev_and, M_ev_or, M_ev_not, M_ev_iff, M_ev_tup, M_ev_lst, M_ev_ix, M_ev_slc, M_ev_rev, M_ev_call, M_ev_mth, M_ev_new, M_ev_att, M_ev_bi, M_ev_isi, M_ev_isx, M_ev_dget, M_ev_dct0, M_ev_pop, M_ev_popi, M_ev_lc, M_ev_dc, M_ev_stk, M_tst_e, M_tst_and, M_tst_or, M_tst_not, M_tstO_no, M_tstO_yes, M_evs_nil, M_evs_cons, M_evD_nil, M_evD_cons, M_evO_no, M_evO_yes, M_evI_e, M_evI_r1, M_evI_r2, M_ex_asg, M_ex_par, M_ex_mov, M_ex_aug, M_ex_sIx, M_ex_sAt, M_ex_augIx, M_ex_augAt, M_ex_exp, M_ex_app, M_ex_ext, M_ex_ins, M_ex_iff, M_ex_whl, M_ex_for_, M_ex_forO, M_ex_ret, M_ex_retM, M_ex_retN, M_ex_brk, M_ex_cnt, M_ex_pass, M_ex_rais, M_ex_stk, M_ex_tr, M_exs_nil, M_exs_cons, M_exh_nil, M_exh_cons, List.length_cons, List.length_nil, Nat.zero_add, Nat.reduceAdd, Nat.reduceSub, Nat.reduceLeDiff, Nat.reduceLT, if_pos, List.map_cons, List.map_nil, rb_ok, rb_none, ob_some, ob_none, sGet, List.cons_append, List.nil_append, List.replicate, cmpH, peek, look, peekV, vals_map, fzL_map, vals, cmpD, fits, fit, fitL, eqv, lf, truV, blOf, Bool.false_eq_true, if_false, if_true, List.set, asgH, esc, put, setP, getP, fz, fzL, asgH.lf', asgD, asgNs, biH, peeks, biD, lenV, newH, binH, binD, ixH, subH, toSV, toSVs, setSVs, okS, setH, setV, isOl, appH, fin_next, fin_ret, outsOf, callH, handArgs, handed, noTwice, backArgs, retH_val, retH_ol, retH_od, retH_oi, List.headD_cons, List.tail_cons, List.headD_nil, List.tail_nil, seqOf, decide_true, decide_false, Bool.and_self, Bool.true_and, Bool.and_true, Bool.false_and, Bool.and_false, Bool.not_true, Bool.not_false, Bool.or_true, Bool.or_false, Bool.true_or, Bool.false_or, List.isEmpty_cons, List.isEmpty_nil, reduceCtorEq, List.contains_nil, List.contains_cons, Nat.reduceBEq, sizeOk, atI_c0, atI_c1, atI_c2, atI_c3, atI_c4, slcD, cut_1, intOf, ix_30, ix_31, ix_32, isTy, List.any_cons, List.any_nil, isNon, isNonV, List.length_map, augD, List.getElem?_cons_zero, List.getElem?_cons_succ, Int.reduceLT, ix_10, ix_1m, ix_20, ix_21, ix_2m, ix_3m, ix_40, ix_41, ix_42, ix_43, ix_4m, ix_50, ix_51, ix_52, ix_53, ix_54, ix_5m, ix_60, ix_61, ix_62, ix_63, ix_64, ix_65, ix_6m, ix_70, ix_71, ix_72, ix_73, ix_74, ix_75, ix_76, ix_7m, ix_80, ix_81, ix_82, ix_83, ix_84, ix_85, ix_86, ix_87, ix_8m, rf0, rf1, rf2, rf3, rf4, rf5, rf6, rf7, rf8, rf9, rf10, rf11, rf12, rf13, rf14, rf15, rf16, rf17, rf18, rf19, rf20, rf21, rf22, rf23, rf24, rf25, rf26, rf27, rf28, rf29, rf30, rf31, rf32, rf33, rf34, rf35, rf36, rf37, rf38, biD, ih]
theorem w_lleast (k : Nat) (es : List Ed) (h : es ≠ []) (hl : es.length ≤ 1000) : ∃ m, M.call prog (k+1) 26 [.val (.lst (es.map ed))] = some (.ok (.val (.int m)) []) ∧ (∃ e ∈ es, e.a = m ∨ e.c = m) ∧ ∀ e ∈ es, m ≤ e.a ∧ m ≤ e.c := by
  have hne : (es.map fun e => if e.c < e.a then e.c else e.a) ≠ [] := fun q => h (List.map_eq_nil_iff.mp q)
  obtain ⟨m, h1, h2, h3⟩ := minI_ok _ hne
  refine ⟨m, ?_, ?_, ?_⟩
  · have hr := least_lc (M.cx prog k) (some (.val (.lst (es.map ed)))) es
    have hv := vals_map (es.map fun e => D.int (if e.c < e.a then e.c else e.a))
    have hi := intsOf_map (es.map fun e => if e.c < e.a then e.c else e.a)
    rw [List.map_map] at hi
    have hi : intsOf (es.map fun e => D.int (if e.c < e.a then e.c else e.a)) = _ := hi
    have z : (es.length ≤ 16777216) := by omega
    simp -dsimp only [g26, f_law_least, M_run, varH_val, varH_ol, varH_od, varH_oi, M_cx_rf, M_cx_sub, M_cx_call, seqG_next, seqG_ret, seqG_brk, seqG_cnt, nox_ok, wipe, forA_some, forK_next, forK_cnt, forK_brk, forK_ret, forK_exc, whlK_next, whlK_cnt, whlK_brk, whlK_ret, whlK_exc, whlB_t, whlB_f, lcA_some, lcB_t, lcB_f, M_ev_var, M_ev_pth, M_ev_cst, M_ev_glb, M_ev_bin, M_ev_neg, M_ev_cmp, M_ev_chn, M_ev_and, M_ev_or, M_ev_not, M_ev_iff, M_ev_tup, M_ev_lst, M_ev_ix, M_ev_slc, M_ev_rev, M_ev_call, M_ev_mth, M_ev_new, M_ev_att, M_ev_bi, M_ev_isi, M_ev_isx, M_ev_dget, M_ev_dct0, M_ev_pop, M_ev_popi, M_ev_lc, M_ev_dc, M_ev_stk, M_tst_e, M_tst_and, M_tst_or, M_tst_not, M_tstO_no, M_tstO_yes, M_evs_nil, M_evs_cons, M_evD_nil, M_evD_cons, M_evO_no, M_evO_yes, M_evI_e, M_evI_r1, M_evI_r2, M_ex_asg, M_ex_par, M_ex_mov, M_ex_aug, M_ex_sIx, M_ex_sAt, M_ex_augIx, M_ex_augAt, M_ex_exp, M_ex_app, M_ex_ext, M_ex_ins, M_ex_iff, M_ex_whl, M_ex_for_, M_ex_forO, M_ex_ret, M_ex_retM, M_ex_retN, M_ex_brk, M_ex_cnt, M_ex_pass, M_ex_rais, M_ex_stk, M_ex_tr, M_exs_nil, M_exs_cons, M_exh_nil, M_exh_cons, List.length_cons, List.length_nil, Nat.zero_add, Nat.reduceAdd, Nat.reduceSub, Nat.reduceLeDiff, Nat.reduceLT, if_pos, List.map_cons, List.map_nil, rb_ok, rb_none, ob_some, ob_none, sGet, List.cons_append, List.nil_append, List.replicate, cmpH, peek, look, peekV, vals_map, fzL_map, vals, cmpD, fits, fit, fitL, eqv, lf, truV, blOf, Bool.false_eq_true, if_false, if_true, List.set, asgH, esc, put, setP, getP, fz, fzL, asgH.lf', asgD, asgNs, biH, peeks, biD, lenV, newH, binH, binD, ixH, subH, toSV, toSVs, setSVs, okS, setH, setV, isOl, appH, fin_next, fin_ret, outsOf, callH, handArgs, handed, noTwice, backArgs, retH_val, retH_ol, retH_od, retH_oi, List.headD_cons, List.tail_cons, List.headD_nil, List.tail_nil, seqOf, decide_true, decide_false, Bool.and_self, Bool.true_and, Bool.and_true, Bool.false_and, Bool.and_false, Bool.not_true, Bool.not_false, Bool.or_true, Bool.or_false, Bool.true_or, Bool.false_or, List.isEmpty_cons, List.isEmpty_nil, reduceCtorEq, List.contains_nil, List.contains_cons, Nat.reduceBEq, sizeOk, atI_c0, atI_c1, atI_c2, atI_c3, atI_c4, slcD, cut_1, intOf, ix_30, ix_31, ix_32, isTy, List.any_cons, List.any_nil, isNon, isNonV, List.length_map, augD, List.getElem?_cons_zero, List.getElem?_cons_succ, Int.reduceLT, ix_10, ix_1m, ix_20, ix_21, ix_2m, ix_3m, ix_40, ix_41, ix_42, ix_43, ix_4m, ix_50, ix_51, ix_52, ix_53, ix_54, ix_5m, ix_60, ix_61, ix_62, ix_63, ix_64, ix_65, ix_6m, ix_70, ix_71, ix_72, ix_73, ix_74, ix_75, ix_76, ix_7m, ix_80, ix_81, ix_82, ix_83, ix_84, ix_85, ix_86, ix_87, ix_8m, rf0, rf1, rf2, rf3, rf4, rf5, rf6, rf7, rf8, rf9, rf10, rf11, rf12, rf13, rf14, rf15, rf16, rf17, rf18, rf19, rf20, rf21, rf22, rf23, rf24, rf25, rf26, rf27, rf28, rf29, rf30, rf31, rf32, rf33, rf34, rf35, rf36, rf37, rf38, hr, hv, hi, h1, z]
  · obtain ⟨e, he, q⟩ := List.mem_map.mp h2
    refine ⟨e, he, ?_⟩
    split at q
    · exact .inr q
    · exact .inl q
  · intro e he
    have := h3 _ (List.mem_map.mpr ⟨e, he, rfl⟩)
    split at this <;> omega
end
end K89
end

section
set_option maxRecDepth 100000
set_option Elab.async false
set_option linter.all false
/-! W10: walks: glyphs. -/
namespace K89
open Pv
section
variable {N : Int} [hN : Nice N]
def mvS (d : Int) (s : Sg) : Sg := ⟨s.x + d, s.y, s.z + d, s.w⟩
def mvM (d : Int) (m : List Sg) : List Sg := m.map (mvS d)
abbrev bMv : Ss := (.cons (.app (.var 2) (.tup (.cons (.tup (.cons (.call 1 (.cons (.ix (.var 3) (.cst (.int 0))) (.cons (.var 1) .nil))) (.cons (.ix (.var 3) (.cst (.int 1))) .nil))) (.cons (.tup (.cons (.call 1 (.cons (.ix (.var 4) (.cst (.int 0))) (.cons (.var 1) .nil))) (.cons (.ix (.var 4) (.cst (.int 1))) .nil))) .nil)))) .nil)
theorem mv_loop (k : Nat) (d : Int) (x : Option SV) : ∀ (m : List Sg) (acc : List SV) (a b : Option SV), acc.length + m.length ≤ 1000 → ∃ a' b',
    M.for_ (M.cx prog (k+2)) (.tp [3, 4]) bMv (m.map (sg N)) [x, some (.val (fr N d)), some (.ol acc), a, b] =
      some (.ok .next [x, some (.val (fr N d)), some (.ol (acc ++ (mvM d m).map fun s => SV.val (sg N s))), a', b']) := by
  intro m
  induction m with
  | nil => exact fun acc a b _ => ⟨a, b, by rw [List.map_nil, M_for_nil]; simp [mvM]⟩
  | cons s m ih =>
    intro acc a b ha
    rw [List.length_cons] at ha
    obtain ⟨a', b', ih'⟩ := ih (acc ++ [.val (sg N (mvS d s))]) (some (.val (.tup [fr N s.x, fr N s.y]))) (some (.val (.tup [fr N s.z, fr N s.w]))) (by rw [List.length_append, List.length_singleton]; omega)
    refine ⟨a', b', ?_⟩
    have z : (acc.length + 1 ≤ 16777216) := by omega
    have hE : acc ++ (mvM d (s :: m)).map (fun s => SV.val (sg N s)) = (acc ++ [.val (sg N (mvS d s))]) ++ (mvM d m).map fun s => SV.val (sg N s) := by simp [mvM]
    have hq : ∀ t : Int, M.call prog (k+2) 1 [.val (fr N t), .val (fr N d)] = some (.ok (.val (fr N (t + d))) []) := fun t => w_plus k (Fc.fr N t) (Fc.fr N d)
    rw [hE, ← ih', List.map_cons, M_for_cons]
    unfold sg mvS
    simp -dsimp only [M_run, varH_val, varH_ol, varH_od, varH_oi, M_cx_rf, M_cx_sub, M_cx_call, seqG_next, seqG_ret, seqG_brk, seqG_cnt, nox_ok, wipe, forA_some, forK_next, forK_cnt, forK_brk, forK_ret, forK_exc, whlK_next, whlK_cnt, whlK_brk, whlK_ret, whlK_exc, whlB_t, whlB_f, lcA_some, lcB_t, lcB_f, M_ev_var, M_ev_pth, M_ev_cst, M_ev_glb, M_ev_bin, M_ev_neg, M_ev_cmp, M_ev_chn, M_ev_and, M_ev_or, M_ev_not, M_ev_iff, M_ev_tup, M_ev_lst, M_ev_ix, M_ev_slc, M_ev_rev, M_ev_call, M_ev_mth, M_ev_new, M_ev_att, M_ev_bi, M_ev_isi, M_ev_isx, M_ev_dget, M_ev_dct0, M_ev_pop, M_ev_popi, M_ev_lc, M_ev_dc, M_ev_stk, M_tst_e, M_tst_and, M_tst_or, M_tst_not, M_tstO_no, M_tstO_yes, M_evs_nil, M_evs_cons, M_evD_nil, M_evD_cons, M_evO_no, M_evO_yes, M_evI_e, M_evI_r1, M_evI_r2, M_ex_asg, M_ex_par, M_ex_mov, M_ex_aug, M_ex_sIx, M_ex_sAt, M_ex_augIx, M_ex_augAt, M_ex_exp, M_ex_app, M_ex_ext, M_ex_ins, M_ex_iff, M_ex_whl, M_ex_for_, M_ex_forO, M_ex_ret, M_ex_retM, M_ex_retN, M_ex_brk, M_ex_cnt, M_ex_pass, M_ex_rais, M_ex_stk, M_ex_tr, M_exs_nil, M_exs_cons, M_exh_nil, M_exh_cons, List.length_cons, List.length_nil, Nat.zero_add, Nat.reduceAdd, Nat.reduceSub, Nat.reduceLeDiff, Nat.reduceLT, if_pos, List.map_cons, List.map_nil, rb_ok, rb_none, ob_some, ob_none, sGet, List.cons_append, List.nil_append, List.replicate, cmpH, peek, look, peekV, vals_map, fzL_map, vals, cmpD, fits, fit, fitL, eqv, lf, truV, blOf, Bool.false_eq_true, if_false, if_true, List.set, asgH, esc, put, setP, getP, fz, fzL, asgH.lf', asgD, asgNs, biH, peeks, biD, lenV, newH, binH, binD, ixH, subH, toSV, toSVs, setSVs, okS, setH, setV, isOl, appH, fin_next, fin_ret, outsOf, callH, handArgs, handed, noTwice, backArgs, retH_val, retH_ol, retH_od, retH_oi, List.headD_cons, List.tail_cons, List.headD_nil, List.tail_nil, seqOf, decide_true, decide_false, Bool.and_self, Bool.true_and, Bool.and_true, Bool.false_and, Bool.and_false, Bool.not_true, Bool.not_false, Bool.or_true, Bool.or_false, Bool.true_or, Bool.false_or, List.isEmpty_cons, List.isEmpty_nil, reduceCtorEq, List.contains_nil, List.contains_cons, Nat.reduceBEq, sizeOk, atI_c0, atI_c1, atI_c2, atI_c3, atI_c4, slcD, cut_1, intOf, ix_30, ix_31, ix_32, isTy, List.any_cons, List.any_nil, isNon, isNonV, List.length_map, augD, List.getElem?_cons_zero, List.getElem?_cons_succ, Int.reduceLT, ix_10, ix_1m, ix_20, ix_21, ix_2m, ix_3m, ix_40, ix_41, ix_42, ix_43, ix_4m, ix_50, ix_51, ix_52, ix_53, ix_54, ix_5m, ix_60, ix_61, ix_62, ix_63, ix_64, ix_65, ix_6m, ix_70, ix_71, ix_72, ix_73, ix_74, ix_75, ix_76, ix_7m, ix_80, ix_81, ix_82, ix_83, ix_84, ix_85, ix_86, ix_87, ix_8m, rf0, rf1, rf2, rf3, rf4, rf5, rf6, rf7, rf8, rf9, rf10, rf11, rf12, rf13, rf14, rf15, rf16, rf17, rf18, rf19, rf20, rf21, rf22, rf23, rf24, rf25, rf26, rf27, rf28, rf29, rf30, rf31, rf32, rf33, rf34, rf35, rf36, rf37, rf38, hq, z, forK_next]
theorem w_moved (k : Nat) (m : List Sg) (d : Int) (hl : m.length ≤ 1000) : M.call prog (k+3) 6 [.val (mk N m), .val (fr N d)] = some (.ok (.val (mk N (mvM d m))) []) := by
  obtain ⟨a', b', h⟩ := mv_loop (N := N) k d (some (.val (mk N m))) m [] none none (by simpa using hl)
  have hv : vals (List.map (fun s => SV.val (sg N s)) (mvM d m)) = some ((mvM d m).map (sg N)) := by
    have := vals_map ((mvM d m).map (sg N))
    rwa [List.map_map] at this
  rw [List.nil_append] at h
  unfold mk at h ⊢
  simp -dsimp only [g6, f_moved_right, M_run, varH_val, varH_ol, varH_od, varH_oi, M_cx_rf, M_cx_sub, M_cx_call, seqG_next, seqG_ret, seqG_brk, seqG_cnt, nox_ok, wipe, forA_some, forK_next, forK_cnt, forK_brk, forK_ret, forK_exc, whlK_next, whlK_cnt, whlK_brk, whlK_ret, whlK_exc, whlB_t, whlB_f, lcA_some, lcB_t, lcB_f, M_ev_var, M_ev_pth, M_ev_cst, M_ev_glb, M_ev_bin, M_ev_neg, M_ev_cmp, M_ev_chn, M_ev_and, M_ev_or, M_ev_not, M_ev_iff, M_ev_tup, M_ev_lst, M_ev_ix, M_ev_slc, M_ev_rev, M_ev_call, M_ev_mth, M_ev_new, M_ev_att, M_ev_bi, M_ev_isi, M_ev_isx, M_ev_dget, M_ev_dct0, M_ev_pop, M_ev_popi, M_ev_lc, M_ev_dc, M_ev_stk, M_tst_e, M_tst_and, M_tst_or, M_tst_not, M_tstO_no, M_tstO_yes, M_evs_nil, M_evs_cons, M_evD_nil, M_evD_cons, M_evO_no, M_evO_yes, M_evI_e, M_evI_r1, M_evI_r2, M_ex_asg, M_ex_par, M_ex_mov, M_ex_aug, M_ex_sIx, M_ex_sAt, M_ex_augIx, M_ex_augAt, M_ex_exp, M_ex_app, M_ex_ext, M_ex_ins, M_ex_iff, M_ex_whl, M_ex_for_, M_ex_forO, M_ex_ret, M_ex_retM, M_ex_retN, M_ex_brk, M_ex_cnt, M_ex_pass, M_ex_rais, M_ex_stk, M_ex_tr, M_exs_nil, M_exs_cons, M_exh_nil, M_exh_cons, List.length_cons, List.length_nil, Nat.zero_add, Nat.reduceAdd, Nat.reduceSub, Nat.reduceLeDiff, Nat.reduceLT, if_pos, List.map_cons, List.map_nil, rb_ok, rb_none, ob_some, ob_none, sGet, List.cons_append, List.nil_append, List.replicate, cmpH, peek, look, peekV, vals_map, fzL_map, vals, cmpD, fits, fit, fitL, eqv, lf, truV, blOf, Bool.false_eq_true, if_false, if_true, List.set, asgH, esc, put, setP, getP, fz, fzL, asgH.lf', asgD, asgNs, biH, peeks, biD, lenV, newH, binH, binD, ixH, subH, toSV, toSVs, setSVs, okS, setH, setV, isOl, appH, fin_next, fin_ret, outsOf, callH, handArgs, handed, noTwice, backArgs, retH_val, retH_ol, retH_od, retH_oi, List.headD_cons, List.tail_cons, List.headD_nil, List.tail_nil, seqOf, decide_true, decide_false, Bool.and_self, Bool.true_and, Bool.and_true, Bool.false_and, Bool.and_false, Bool.not_true, Bool.not_false, Bool.or_true, Bool.or_false, Bool.true_or, Bool.false_or, List.isEmpty_cons, List.isEmpty_nil, reduceCtorEq, List.contains_nil, List.contains_cons, Nat.reduceBEq, sizeOk, atI_c0, atI_c1, atI_c2, atI_c3, atI_c4, slcD, cut_1, intOf, ix_30, ix_31, ix_32, isTy, List.any_cons, List.any_nil, isNon, isNonV, List.length_map, augD, List.getElem?_cons_zero, List.getElem?_cons_succ, Int.reduceLT, ix_10, ix_1m, ix_20, ix_21, ix_2m, ix_3m, ix_40, ix_41, ix_42, ix_43, ix_4m, ix_50, ix_51, ix_52, ix_53, ix_54, ix_5m, ix_60, ix_61, ix_62, ix_63, ix_64, ix_65, ix_6m, ix_70, ix_71, ix_72, ix_73, ix_74, ix_75, ix_76, ix_7m, ix_80, ix_81, ix_82, ix_83, ix_84, ix_85, ix_86, ix_87, ix_8m, rf0, rf1, rf2, rf3, rf4, rf5, rf6, rf7, rf8, rf9, rf10, rf11, rf12, rf13, rf14, rf15, rf16, rf17, rf18, rf19, rf20, rf21, rf22, rf23, rf24, rf25, rf26, rf27, rf28, rf29, rf30, rf31, rf32, rf33, rf34, rf35, rf36, rf37, rf38, h, hv, biD]
theorem lo_loop (k : Nat) (x : Option SV) : ∀ (zs : List Int) (f : Int) (a : Option SV), ∃ a' f', (f' = f ∨ f' ∈ zs) ∧ f' ≤ f ∧ (∀ z ∈ zs, f' ≤ z) ∧
    M.for_ (M.cx prog (k+2)) (.nm 2) (.cons (.asg (.nm 1) (.call 4 (.cons (.var 1) (.cons (.var 2) .nil)))) .nil) (zs.map (fr N)) [x, some (.val (fr N f)), a] =
      some (.ok .next [x, some (.val (fr N f')), a']) := by
  intro zs
  induction zs with
  | nil => exact fun f a => ⟨a, f, .inl rfl, Int.le_refl _, nofun, by rw [List.map_nil, M_for_nil]⟩
  | cons z zs ih =>
    intro f a
    obtain ⟨a', f', h1, h2, h3, h4⟩ := ih (if f ≤ z then f else z) (some (.val (fr N z)))
    refine ⟨a', f', ?_, ?_, ?_, ?_⟩
    · rcases h1 with h1 | h1
      · split at h1
        · exact .inl h1
        · exact .inr (h1 ▸ List.mem_cons_self)
      · exact .inr (List.mem_cons_of_mem _ h1)
    · split at h2 <;> omega
    · intro y hy
      rcases List.mem_cons.mp hy with rfl | hy
      · split at h2 <;> omega
      · exact h3 y hy
    · have hl := w_lesser (N := N) k f z
      rw [List.map_cons, M_for_cons]
      simp -dsimp only [M_run, varH_val, varH_ol, varH_od, varH_oi, M_cx_rf, M_cx_sub, M_cx_call, seqG_next, seqG_ret, seqG_brk, seqG_cnt, nox_ok, wipe, forA_some, forK_next, forK_cnt, forK_brk, forK_ret, forK_exc, whlK_next, whlK_cnt, whlK_brk, whlK_ret, whlK_exc, whlB_t, whlB_f, lcA_some, lcB_t, lcB_f, M_ev_var, M_ev_pth, M_ev_cst, M_ev_glb, M_ev_bin, M_ev_neg, M_ev_cmp, M_ev_chn, M_ev_and, M_ev_or, M_ev_not, M_ev_iff, M_ev_tup, M_ev_lst, M_ev_ix, M_ev_slc, M_ev_rev, M_ev_call, M_ev_mth, M_ev_new, M_ev_att, M_ev_bi, M_ev_isi, M_ev_isx, M_ev_dget, M_ev_dct0, M_ev_pop, M_ev_popi, M_ev_lc, M_ev_dc, M_ev_stk, M_tst_e, M_tst_and, M_tst_or, M_tst_not, M_tstO_no, M_tstO_yes, M_evs_nil, M_evs_cons, M_evD_nil, M_evD_cons, M_evO_no, M_evO_yes, M_evI_e, M_evI_r1, M_evI_r2, M_ex_asg, M_ex_par, M_ex_mov, M_ex_aug, M_ex_sIx, M_ex_sAt, M_ex_augIx, M_ex_augAt, M_ex_exp, M_ex_app, M_ex_ext, M_ex_ins, M_ex_iff, M_ex_whl, M_ex_for_, M_ex_forO, M_ex_ret, M_ex_retM, M_ex_retN, M_ex_brk, M_ex_cnt, M_ex_pass, M_ex_rais, M_ex_stk, M_ex_tr, M_exs_nil, M_exs_cons, M_exh_nil, M_exh_cons, List.length_cons, List.length_nil, Nat.zero_add, Nat.reduceAdd, Nat.reduceSub, Nat.reduceLeDiff, Nat.reduceLT, if_pos, List.map_cons, List.map_nil, rb_ok, rb_none, ob_some, ob_none, sGet, List.cons_append, List.nil_append, List.replicate, cmpH, peek, look, peekV, vals_map, fzL_map, vals, cmpD, fits, fit, fitL, eqv, lf, truV, blOf, Bool.false_eq_true, if_false, if_true, List.set, asgH, esc, put, setP, getP, fz, fzL, asgH.lf', asgD, asgNs, biH, peeks, biD, lenV, newH, binH, binD, ixH, subH, toSV, toSVs, setSVs, okS, setH, setV, isOl, appH, fin_next, fin_ret, outsOf, callH, handArgs, handed, noTwice, backArgs, retH_val, retH_ol, retH_od, retH_oi, List.headD_cons, List.tail_cons, List.headD_nil, List.tail_nil, seqOf, decide_true, decide_false, Bool.and_self, Bool.true_and, Bool.and_true, Bool.false_and, Bool.and_false, Bool.not_true, Bool.not_false, Bool.or_true, Bool.or_false, Bool.true_or, Bool.false_or, List.isEmpty_cons, List.isEmpty_nil, reduceCtorEq, List.contains_nil, List.contains_cons, Nat.reduceBEq, sizeOk, atI_c0, atI_c1, atI_c2, atI_c3, atI_c4, slcD, cut_1, intOf, ix_30, ix_31, ix_32, isTy, List.any_cons, List.any_nil, isNon, isNonV, List.length_map, augD, List.getElem?_cons_zero, List.getElem?_cons_succ, Int.reduceLT, ix_10, ix_1m, ix_20, ix_21, ix_2m, ix_3m, ix_40, ix_41, ix_42, ix_43, ix_4m, ix_50, ix_51, ix_52, ix_53, ix_54, ix_5m, ix_60, ix_61, ix_62, ix_63, ix_64, ix_65, ix_6m, ix_70, ix_71, ix_72, ix_73, ix_74, ix_75, ix_76, ix_7m, ix_80, ix_81, ix_82, ix_83, ix_84, ix_85, ix_86, ix_87, ix_8m, rf0, rf1, rf2, rf3, rf4, rf5, rf6, rf7, rf8, rf9, rf10, rf11, rf12, rf13, rf14, rf15, rf16, rf17, rf18, rf19, rf20, rf21, rf22, rf23, rf24, rf25, rf26, rf27, rf28, rf29, rf30, rf31, rf32, rf33, rf34, rf35, rf36, rf37, rf38, hl, forK_next, h4]
theorem w_leastof (k : Nat) (z : Int) (zs : List Int) : ∃ l, l ∈ z :: zs ∧ (∀ y ∈ z :: zs, l ≤ y) ∧ M.call prog (k+3) 7 [.val (.lst ((z :: zs).map (fr N)))] = some (.ok (.val (fr N l)) []) := by
  obtain ⟨a', f', h1, h2, h3, h4⟩ := lo_loop (N := N) k (some (.val (.lst ((z :: zs).map (fr N))))) (z :: zs) z none
  refine ⟨f', ?_, h3, ?_⟩
  · rcases h1 with rfl | h1
    · exact List.mem_cons_self
    · exact h1
  · rw [List.map_cons] at h4 ⊢
    simp -dsimp only [g7, f_least_of, M_run, varH_val, varH_ol, varH_od, varH_oi, M_cx_rf, M_cx_sub, M_cx_call, seqG_next, seqG_ret, seqG_brk, seqG_cnt, nox_ok, wipe, forA_some, forK_next, forK_cnt, forK_brk, forK_ret, forK_exc, whlK_next, whlK_cnt, whlK_brk, whlK_ret, whlK_exc, whlB_t, whlB_f, lcA_some, lcB_t, lcB_f, M_ev_var, M_ev_pth, M_ev_cst, M_ev_glb, M_ev_bin, M_ev_neg, M_ev_cmp, M_ev_chn, M_ev_and, M_ev_or, M_ev_not, M_ev_iff, M_ev_tup, M_ev_lst, M_ev_ix, M_ev_slc, M_ev_rev, M_ev_call, M_ev_mth, M_ev_new, M_ev_att, M_ev_bi, M_ev_isi, M_ev_isx, M_ev_dget, M_ev_dct0, M_ev_pop, M_ev_popi, M_ev_lc, M_ev_dc, M_ev_stk, M_tst_e, M_tst_and, M_tst_or, M_tst_not, M_tstO_no, M_tstO_yes, M_evs_nil, M_evs_cons, M_evD_nil, M_evD_cons, M_evO_no, M_evO_yes, M_evI_e, M_evI_r1, M_evI_r2, M_ex_asg, M_ex_par, M_ex_mov, M_ex_aug, M_ex_sIx, M_ex_sAt, M_ex_augIx, M_ex_augAt, M_ex_exp, M_ex_app, M_ex_ext, M_ex_ins, M_ex_iff, M_ex_whl, M_ex_for_, M_ex_forO, M_ex_ret, M_ex_retM, M_ex_retN, M_ex_brk, M_ex_cnt, M_ex_pass, M_ex_rais, M_ex_stk, M_ex_tr, M_exs_nil, M_exs_cons, M_exh_nil, M_exh_cons, List.length_cons, List.length_nil, Nat.zero_add, Nat.reduceAdd, Nat.reduceSub, Nat.reduceLeDiff, Nat.reduceLT, if_pos, List.map_cons, List.map_nil, rb_ok, rb_none, ob_some, ob_none, sGet, List.cons_append, List.nil_append, List.replicate, cmpH, peek, look, peekV, vals_map, fzL_map, vals, cmpD, fits, fit, fitL, eqv, lf, truV, blOf, Bool.false_eq_true, if_false, if_true, List.set, asgH, esc, put, setP, getP, fz, fzL, asgH.lf', asgD, asgNs, biH, peeks, biD, lenV, newH, binH, binD, ixH, subH, toSV, toSVs, setSVs, okS, setH, setV, isOl, appH, fin_next, fin_ret, outsOf, callH, handArgs, handed, noTwice, backArgs, retH_val, retH_ol, retH_od, retH_oi, List.headD_cons, List.tail_cons, List.headD_nil, List.tail_nil, seqOf, decide_true, decide_false, Bool.and_self, Bool.true_and, Bool.and_true, Bool.false_and, Bool.and_false, Bool.not_true, Bool.not_false, Bool.or_true, Bool.or_false, Bool.true_or, Bool.false_or, List.isEmpty_cons, List.isEmpty_nil, reduceCtorEq, List.contains_nil, List.contains_cons, Nat.reduceBEq, sizeOk, atI_c0, atI_c1, atI_c2, atI_c3, atI_c4, slcD, cut_1, intOf, ix_30, ix_31, ix_32, isTy, List.any_cons, List.any_nil, isNon, isNonV, List.length_map, augD, List.getElem?_cons_zero, List.getElem?_cons_succ, Int.reduceLT, ix_10, ix_1m, ix_20, ix_21, ix_2m, ix_3m, ix_40, ix_41, ix_42, ix_43, ix_4m, ix_50, ix_51, ix_52, ix_53, ix_54, ix_5m, ix_60, ix_61, ix_62, ix_63, ix_64, ix_65, ix_6m, ix_70, ix_71, ix_72, ix_73, ix_74, ix_75, ix_76, ix_7m, ix_80, ix_81, ix_82, ix_83, ix_84, ix_85, ix_86, ix_87, ix_8m, rf0, rf1, rf2, rf3, rf4, rf5, rf6, rf7, rf8, rf9, rf10, rf11, rf12, rf13, rf14, rf15, rf16, rf17, rf18, rf19, rf20, rf21, rf22, rf23, rf24, rf25, rf26, rf27, rf28, rf29, rf30, rf31, rf32, rf33, rf34, rf35, rf36, rf37, rf38, h4]
theorem xs_lc (C : Cxt) (a b c d : Option SV) : ∀ m : List Sg, M.lc C [3, 4] (.tp [3, 4]) .no (.ix (.var 3) (.cst (.int 0))) (m.map (sg N)) [a, b, c, none, none, d] = some (.ok (m.map fun s => fr N s.x) [a, b, c, none, none, d]) := by
  intro m
  induction m with
  | nil => rw [List.map_nil, M_lc_nil]; rfl
  | cons e m ih =>
    rw [List.map_cons, M_lc_cons, List.map_cons]
    unfold sg at ih ⊢
    simp -dsimp only [M_run, varH_val, varH_ol, varH_od, varH_oi, M_cx_rf, M_cx_sub, M_cx_call, seqG_next, seqG_ret, seqG_brk, seqG_cnt, nox_ok, wipe, forA_some, forK_next, forK_cnt, forK_brk, forK_ret, forK_exc, whlK_next, whlK_cnt, whlK_brk, whlK_ret, whlK_exc, whlB_t, whlB_f, lcA_some, lcB_t, lcB_f, M_ev_var, M_ev_pth, M_ev_cst, M_ev_glb, M_ev_bin, M_ev_neg, M_ev_cmp, M_ev_chn, M_ev_and, M_ev_or, M_ev_not, M_ev_iff, M_ev_tup, M_ev_lst, M_ev_ix, M_ev_slc, M_ev_rev, M_ev_call, M_ev_mth, M_ev_new, M_ev_att, M_ev_bi, M_ev_isi, M_ev_isx, M_ev_dget, M_ev_dct0, M_ev_pop, M_ev_popi, M_ev_lc, M_ev_dc, M_ev_stk, M_tst_e, M_tst_and, M_tst_or, M_tst_not, M_tstO_no, M_tstO_yes, M_evs_nil, M_evs_cons, M_evD_nil, M_evD_cons, M_evO_no, M_evO_yes, M_evI_e, M_evI_r1, M_evI_r2, M_ex_asg, M_ex_par, M_ex_mov, M_ex_aug, M_ex_sIx, M_ex_sAt, M_ex_augIx, M_ex_augAt, M_ex_exp, M_ex_app, M_ex_ext, M_ex_ins, M_ex_iff, M_ex_whl, M_ex_for_, M_ex_forO, M_ex_ret, M_ex_retM, M_ex_retN, M_ex_brk, M_ex_cnt, M_ex_pass, M_ex_rais, M_ex_stk, M_ex_tr, M_exs_nil, M_exs_cons, M_exh_nil, M_exh_cons, List.length_cons, List.length_nil, Nat.zero_add, Nat.reduceAdd, Nat.reduceSub, Nat.reduceLeDiff, Nat.reduceLT, if_pos, List.map_cons, List.map_nil, rb_ok, rb_none, ob_some, ob_none, sGet, List.cons_append, List.nil_append, List.replicate, cmpH, peek, look, peekV, vals_map, fzL_map, vals, cmpD, fits, fit, fitL, eqv, lf, truV, blOf, Bool.false_eq_true, if_false, if_true, List.set, asgH, esc, put, setP, getP, fz, fzL, asgH.lf', asgD, asgNs, biH, peeks, biD, lenV, newH, binH, binD, ixH, subH, toSV, toSVs, setSVs, okS, setH, setV, isOl, appH, fin_next, fin_ret, outsOf, callH, handArgs, handed, noTwice, backArgs, retH_val, retH_ol, retH_od, retH_oi, List.headD_cons, List.tail_cons, List.headD_nil, List.tail_nil, seqOf, decide_true, decide_false, Bool.and_self, Bool.true_and, Bool.and_true, Bool.false_and, Bool.and_false, Bool.not_true, Bool.not_false, Bool.or_true, Bool.or_false, Bool.true_or, Bool.false_or, List.isEmpty_cons, List.isEmpty_nil, reduceCtorEq, List.contains_nil, List.contains_cons, Nat.reduceBEq, sizeOk, atI_c0, atI_c1, atI_c2, atI_c3, atI_c4, slcD, cut_1, intOf, ix_30, ix_31, ix_32, isTy, List.any_cons, List.any_nil, isNon, isNonV, List.length_map, augD, List.getElem?_cons_zero, List.getElem?_cons_succ, Int.reduceLT, ix_10, ix_1m, ix_20, ix_21, ix_2m, ix_3m, ix_40, ix_41, ix_42, ix_43, ix_4m, ix_50, ix_51, ix_52, ix_53, ix_54, ix_5m, ix_60, ix_61, ix_62, ix_63, ix_64, ix_65, ix_6m, ix_70, ix_71, ix_72, ix_73, ix_74, ix_75, ix_76, ix_7m, ix_80, ix_81, ix_82, ix_83, ix_84, ix_85, ix_86, ix_87, ix_8m, rf0, rf1, rf2, rf3, rf4, rf5, rf6, rf7, rf8, rf9, rf10, rf11, rf12, rf13, rf14, rf15, rf16, rf17, rf18, rf19, rf20, rf21, rf22, rf23, rf24, rf25, rf26, rf27, rf28, rf29, rf30, rf31, rf32, rf33, rf34, rf35, rf36, rf37, rf38, ih]
theorem w_glyph (k : Nat) (s : Sg) (m : List Sg) (w : Int) (hl : m.length < 1000) : ∃ l, (∃ t ∈ s :: m, t.x = l) ∧ (∀ t ∈ s :: m, l ≤ t.x) ∧
    M.call prog (k+4) 8 [.val (mk N (s :: m)), .val (.int w)] = some (.ok (.val (.tup [.tup [.tup [fr N l, mk N (mvM (0 - l) (s :: m))]], fr N (w * N - l)])) []) := by
  obtain ⟨l, h1, h2, h3⟩ := w_leastof (N := N) k s.x (m.map fun t => t.x)
  have e : (s.x :: m.map fun t => t.x) = (s :: m).map fun t => t.x := rfl
  rw [e] at h1 h2 h3
  refine ⟨l, List.mem_map.mp h1, fun t ht => h2 _ (List.mem_map.mpr ⟨t, ht, rfl⟩), ?_⟩
  rw [List.map_map] at h3
  have h3 : M.call prog (k+3) 7 [.val (.lst ((s :: m).map fun t => fr N t.x))] = some (.ok (.val (fr N l)) []) := h3
  have hx := xs_lc (N := N) (M.cx prog (k+3)) (some (.val (mk N (s :: m)))) (some (.val (.int w))) none none (s :: m)
  have hn0 := w_minus (k+1) (p := .tup [.int 0, .int 1]) (z := 0) (by rw [← fr_0 (N := N)]; exact Fc.fr N 0) (Fc.fr N l)
  have hn1 := w_minus (k+1) (fc_whole w) (Fc.fr N l)
  have hw := w_whole (k+2) w
  have hm := w_moved (N := N) k (s :: m) (0 - l) (by simp; omega)
  have z : (((m.length + 1 : Nat) : Int) == 0) = false := by simp; omega
  have z2 : (m.length + 1 ≤ 16777216) := by omega
  rw [List.map_cons] at hx h3
  unfold mk at hx hm ⊢
  rw [List.map_cons] at hx hm ⊢
  simp -dsimp only [g8, f_glyph_trace, M_run, varH_val, varH_ol, varH_od, varH_oi, M_cx_rf, M_cx_sub, M_cx_call, seqG_next, seqG_ret, seqG_brk, seqG_cnt, nox_ok, wipe, forA_some, forK_next, forK_cnt, forK_brk, forK_ret, forK_exc, whlK_next, whlK_cnt, whlK_brk, whlK_ret, whlK_exc, whlB_t, whlB_f, lcA_some, lcB_t, lcB_f, M_ev_var, M_ev_pth, M_ev_cst, M_ev_glb, M_ev_bin, M_ev_neg, M_ev_cmp, M_ev_chn, M_ev_and, M_ev_or, M_ev_not, M_ev_iff, M_ev_tup, M_ev_lst, M_ev_ix, M_ev_slc, M_ev_rev, M_ev_call, M_ev_mth, M_ev_new, M_ev_att, M_ev_bi, M_ev_isi, M_ev_isx, M_ev_dget, M_ev_dct0, M_ev_pop, M_ev_popi, M_ev_lc, M_ev_dc, M_ev_stk, M_tst_e, M_tst_and, M_tst_or, M_tst_not, M_tstO_no, M_tstO_yes, M_evs_nil, M_evs_cons, M_evD_nil, M_evD_cons, M_evO_no, M_evO_yes, M_evI_e, M_evI_r1, M_evI_r2, M_ex_asg, M_ex_par, M_ex_mov, M_ex_aug, M_ex_sIx, M_ex_sAt, M_ex_augIx, M_ex_augAt, M_ex_exp, M_ex_app, M_ex_ext, M_ex_ins, M_ex_iff, M_ex_whl, M_ex_for_, M_ex_forO, M_ex_ret, M_ex_retM, M_ex_retN, M_ex_brk, M_ex_cnt, M_ex_pass, M_ex_rais, M_ex_stk, M_ex_tr, M_exs_nil, M_exs_cons, M_exh_nil, M_exh_cons, List.length_cons, List.length_nil, Nat.zero_add, Nat.reduceAdd, Nat.reduceSub, Nat.reduceLeDiff, Nat.reduceLT, if_pos, List.map_cons, List.map_nil, rb_ok, rb_none, ob_some, ob_none, sGet, List.cons_append, List.nil_append, List.replicate, cmpH, peek, look, peekV, vals_map, fzL_map, vals, cmpD, fits, fit, fitL, eqv, lf, truV, blOf, Bool.false_eq_true, if_false, if_true, List.set, asgH, esc, put, setP, getP, fz, fzL, asgH.lf', asgD, asgNs, biH, peeks, biD, lenV, newH, binH, binD, ixH, subH, toSV, toSVs, setSVs, okS, setH, setV, isOl, appH, fin_next, fin_ret, outsOf, callH, handArgs, handed, noTwice, backArgs, retH_val, retH_ol, retH_od, retH_oi, List.headD_cons, List.tail_cons, List.headD_nil, List.tail_nil, seqOf, decide_true, decide_false, Bool.and_self, Bool.true_and, Bool.and_true, Bool.false_and, Bool.and_false, Bool.not_true, Bool.not_false, Bool.or_true, Bool.or_false, Bool.true_or, Bool.false_or, List.isEmpty_cons, List.isEmpty_nil, reduceCtorEq, List.contains_nil, List.contains_cons, Nat.reduceBEq, sizeOk, atI_c0, atI_c1, atI_c2, atI_c3, atI_c4, slcD, cut_1, intOf, ix_30, ix_31, ix_32, isTy, List.any_cons, List.any_nil, isNon, isNonV, List.length_map, augD, List.getElem?_cons_zero, List.getElem?_cons_succ, Int.reduceLT, ix_10, ix_1m, ix_20, ix_21, ix_2m, ix_3m, ix_40, ix_41, ix_42, ix_43, ix_4m, ix_50, ix_51, ix_52, ix_53, ix_54, ix_5m, ix_60, ix_61, ix_62, ix_63, ix_64, ix_65, ix_6m, ix_70, ix_71, ix_72, ix_73, ix_74, ix_75, ix_76, ix_7m, ix_80, ix_81, ix_82, ix_83, ix_84, ix_85, ix_86, ix_87, ix_8m, rf0, rf1, rf2, rf3, rf4, rf5, rf6, rf7, rf8, rf9, rf10, rf11, rf12, rf13, rf14, rf15, rf16, rf17, rf18, rf19, rf20, rf21, rf22, rf23, rf24, rf25, rf26, rf27, rf28, rf29, rf30, rf31, rf32, rf33, rf34, rf35, rf36, rf37, rf38, hx, h3, hn0, hn1, hw, hm, z, z2, List.length_map]
theorem w_glyph0 (k : Nat) (w : Int) : M.call prog (k+2) 8 [.val (.tup []), .val (.int w)] = some (.ok (.val (.tup [.tup [], .tup [.int w, .int 1]])) []) := by
  have hw := w_whole k w
  have z : (((0 : Nat) : Int) == 0) = true := by decide
  simp -dsimp only [g8, f_glyph_trace, M_run, varH_val, varH_ol, varH_od, varH_oi, M_cx_rf, M_cx_sub, M_cx_call, seqG_next, seqG_ret, seqG_brk, seqG_cnt, nox_ok, wipe, forA_some, forK_next, forK_cnt, forK_brk, forK_ret, forK_exc, whlK_next, whlK_cnt, whlK_brk, whlK_ret, whlK_exc, whlB_t, whlB_f, lcA_some, lcB_t, lcB_f, M_ev_var, M_ev_pth, M_ev_cst, M_ev_glb, M_ev_bin, M_ev_neg, M_ev_cmp, M_ev_chn, M_ev_and, M_ev_or, M_ev_not, M_ev_iff, M_ev_tup, M_ev_lst, M_ev_ix, M_ev_slc, M_ev_rev, M_ev_call, M_ev_mth, M_ev_new, M_ev_att, M_ev_bi, M_ev_isi, M_ev_isx, M_ev_dget, M_ev_dct0, M_ev_pop, M_ev_popi, M_ev_lc, M_ev_dc, M_ev_stk, M_tst_e, M_tst_and, M_tst_or, M_tst_not, M_tstO_no, M_tstO_yes, M_evs_nil, M_evs_cons, M_evD_nil, M_evD_cons, M_evO_no, M_evO_yes, M_evI_e, M_evI_r1, M_evI_r2, M_ex_asg, M_ex_par, M_ex_mov, M_ex_aug, M_ex_sIx, M_ex_sAt, M_ex_augIx, M_ex_augAt, M_ex_exp, M_ex_app, M_ex_ext, M_ex_ins, M_ex_iff, M_ex_whl, M_ex_for_, M_ex_forO, M_ex_ret, M_ex_retM, M_ex_retN, M_ex_brk, M_ex_cnt, M_ex_pass, M_ex_rais, M_ex_stk, M_ex_tr, M_exs_nil, M_exs_cons, M_exh_nil, M_exh_cons, List.length_cons, List.length_nil, Nat.zero_add, Nat.reduceAdd, Nat.reduceSub, Nat.reduceLeDiff, Nat.reduceLT, if_pos, List.map_cons, List.map_nil, rb_ok, rb_none, ob_some, ob_none, sGet, List.cons_append, List.nil_append, List.replicate, cmpH, peek, look, peekV, vals_map, fzL_map, vals, cmpD, fits, fit, fitL, eqv, lf, truV, blOf, Bool.false_eq_true, if_false, if_true, List.set, asgH, esc, put, setP, getP, fz, fzL, asgH.lf', asgD, asgNs, biH, peeks, biD, lenV, newH, binH, binD, ixH, subH, toSV, toSVs, setSVs, okS, setH, setV, isOl, appH, fin_next, fin_ret, outsOf, callH, handArgs, handed, noTwice, backArgs, retH_val, retH_ol, retH_od, retH_oi, List.headD_cons, List.tail_cons, List.headD_nil, List.tail_nil, seqOf, decide_true, decide_false, Bool.and_self, Bool.true_and, Bool.and_true, Bool.false_and, Bool.and_false, Bool.not_true, Bool.not_false, Bool.or_true, Bool.or_false, Bool.true_or, Bool.false_or, List.isEmpty_cons, List.isEmpty_nil, reduceCtorEq, List.contains_nil, List.contains_cons, Nat.reduceBEq, sizeOk, atI_c0, atI_c1, atI_c2, atI_c3, atI_c4, slcD, cut_1, intOf, ix_30, ix_31, ix_32, isTy, List.any_cons, List.any_nil, isNon, isNonV, List.length_map, augD, List.getElem?_cons_zero, List.getElem?_cons_succ, Int.reduceLT, ix_10, ix_1m, ix_20, ix_21, ix_2m, ix_3m, ix_40, ix_41, ix_42, ix_43, ix_4m, ix_50, ix_51, ix_52, ix_53, ix_54, ix_5m, ix_60, ix_61, ix_62, ix_63, ix_64, ix_65, ix_6m, ix_70, ix_71, ix_72, ix_73, ix_74, ix_75, ix_76, ix_7m, ix_80, ix_81, ix_82, ix_83, ix_84, ix_85, ix_86, ix_87, ix_8m, rf0, rf1, rf2, rf3, rf4, rf5, rf6, rf7, rf8, rf9, rf10, rf11, rf12, rf13, rf14, rf15, rf16, rf17, rf18, rf19, rf20, rf21, rf22, rf23, rf24, rf25, rf26, rf27, rf28, rf29, rf30, rf31, rf32, rf33, rf34, rf35, rf36, rf37, rf38, hw, z]
end
end K89
end

section
set_option maxRecDepth 100000
set_option Elab.async false
set_option linter.all false
/-! W11: walks: marks, traces. -/
namespace K89
open Pv
theorem part_ok {N : Int} [hN : Nice N] (h : (1344 : Int) ∣ N) {p : Int} (hp : p = 1 ∨ p = 2 ∨ p = 3 ∨ p = 7 ∨ p = 64) : ∃ u, 0 < u ∧ u * p = N := by
  obtain ⟨q, hq⟩ := h
  have := hN.pos
  rcases hp with rfl | rfl | rfl | rfl | rfl
  · exact ⟨q * 1344, by omega, by omega⟩
  · exact ⟨q * 672, by omega, by omega⟩
  · exact ⟨q * 448, by omega, by omega⟩
  · exact ⟨q * 192, by omega, by omega⟩
  · exact ⟨q * 21, by omega, by omega⟩
structure EsOk (es : List Ed) : Prop where
  ne : es ≠ []
  ln : es.length ≤ 100
  cl : ∀ e ∈ es, ∃ f ∈ es, f.a = e.c
theorem edsOf_cl (ps : List (Int × Int)) : ∀ e ∈ edsOf ps, ∃ f ∈ edsOf ps, f.a = e.c := by
  intro e he
  unfold edsOf at he ⊢
  obtain ⟨i, hi, rfl⟩ := List.mem_map.mp he
  have hi := List.mem_range.mp hi
  by_cases h : i + 1 < ps.length
  · refine ⟨edAt ps (i + 1), List.mem_map.mpr ⟨i + 1, List.mem_range.mpr h, rfl⟩, ?_⟩
    unfold edAt prv
    rw [if_neg (by omega)]
    rfl
  · refine ⟨edAt ps 0, List.mem_map.mpr ⟨0, List.mem_range.mpr (by omega), rfl⟩, ?_⟩
    unfold edAt prv
    rw [if_pos rfl]
    have : ps.length - 1 = i := by omega
    rw [this]
theorem edsOf_len (ps : List (Int × Int)) : (edsOf ps).length = ps.length := by simp [edsOf]
theorem fl_ok {ps hs : List (List (Int × Int))} (h : ShOk ps hs) {es : List Ed} (hp : es.Perm (fl (ps ++ hs.map List.reverse))) : EsOk es := by
  obtain ⟨h1, h2, h3⟩ := h
  have hl : ∀ q ∈ ps ++ hs.map List.reverse, q ≠ [] ∧ q.length ≤ 8 := by
    intro q hq
    rcases List.mem_append.mp hq with hq | hq
    · exact h3 q (List.mem_append_left _ hq)
    · obtain ⟨r, hr, rfl⟩ := List.mem_map.mp hq
      have := h3 r (List.mem_append_right _ hr)
      rw [List.length_reverse]
      exact ⟨fun z => this.1 (List.reverse_eq_nil_iff.mp z), this.2⟩
  have hlen : (ps ++ hs.map List.reverse).length ≤ 2 := by simpa using h2
  have hne : ps ++ hs.map List.reverse ≠ [] := fun z => h1 (List.append_eq_nil_iff.mp z).1
  generalize ps ++ hs.map List.reverse = L at *
  have hmem : ∀ e, e ∈ es ↔ ∃ p ∈ L, e ∈ edsOf p := by
    intro e
    rw [hp.mem_iff]
    unfold fl
    simp only [List.mem_flatten, List.mem_map]
    exact ⟨fun ⟨l, ⟨a, h1, h2⟩, h3⟩ => ⟨a, h1, h2 ▸ h3⟩, fun ⟨a, h1, h2⟩ => ⟨_, ⟨a, h1, rfl⟩, h2⟩⟩
  refine ⟨?_, ?_, ?_⟩
  · cases L with
    | nil => exact absurd rfl hne
    | cons p L =>
      have hp0 := (hl p List.mem_cons_self).1
      intro z
      subst z
      have : edAt p 0 ∈ edsOf p := List.mem_map.mpr ⟨0, List.mem_range.mpr (List.length_pos_iff.mpr hp0), rfl⟩
      exact absurd ((hmem (edAt p 0)).mpr ⟨p, List.mem_cons_self, this⟩) (by simp)
  · rw [hp.length_eq]
    match L, hlen, hl with
    | [], _, _ => simp [fl]
    | [p], _, hl => have := (hl p (by simp)).2; simp [fl, edsOf_len]; omega
    | [p, q], _, hl => have := (hl p (by simp)).2; have := (hl q (by simp)).2; simp [fl, edsOf_len]; omega
  · intro e he
    obtain ⟨p, hpL, hep⟩ := (hmem e).mp he
    obtain ⟨f, hf, hfe⟩ := edsOf_cl p e hep
    exact ⟨f, (hmem f).mpr ⟨p, hpL, hf⟩, hfe⟩
theorem cases5 {x : Int} (h : 0 ≤ x ∧ x < 5) : x = 0 ∨ x = 1 ∨ x = 2 ∨ x = 3 ∨ x = 4 := by omega
theorem w_mark (k : Nat) (s : Sm) : ∃ es p s', EsOk es ∧ (p = 1 ∨ p = 2 ∨ p = 3 ∨ p = 7 ∨ p = 64) ∧ M.call prog (k+4) 27 [strm s] = some (.ok (.val (.tup [.lst (es.map ed), .int p])) [strm s']) := by
  obtain ⟨ps, hs, s1, h1, h2⟩ := w_shape k s
  obtain ⟨es, h3, h4⟩ := w_edges (k+2) ps hs h1
  have hn := w_next (k+2) s1 5 (by decide) (by decide)
  have b := nx_bd s1 (size := 5) (by decide)
  have pick : ∀ x : Int, 0 ≤ x ∧ x < 5 → ∃ p, (p = 1 ∨ p = 2 ∨ p = 3 ∨ p = 7 ∨ p = 64) ∧ ∃ j, ixN 5 x = some j ∧ ([.val (.int 1), .val (.int 1), .val (.int 2), .val (.int 3), .val (.int 7)] : List SV)[j]? = some (.val (.int p)) := by
    intro x hx
    rcases cases5 hx with rfl | rfl | rfl | rfl | rfl
    · exact ⟨1, by simp, 0, rfl, rfl⟩
    · exact ⟨1, by simp, 1, rfl, rfl⟩
    · exact ⟨2, by simp, 2, rfl, rfl⟩
    · exact ⟨3, by simp, 3, rfl, rfl⟩
    · exact ⟨7, by simp, 4, rfl, rfl⟩
  obtain ⟨p, hp, j, j1, j2⟩ := pick _ b
  refine ⟨es, p, ns s1 5, fl_ok h1 h3, hp, ?_⟩
  simp -dsimp only [g27, f_law_mark, M_run, varH_val, varH_ol, varH_od, varH_oi, M_cx_rf, M_cx_sub, M_cx_call, seqG_next, seqG_ret, seqG_brk, seqG_cnt, nox_ok, wipe, forA_some, forK_next, forK_cnt, forK_brk, forK_ret, forK_exc, whlK_next, whlK_cnt, whlK_brk, whlK_ret, whlK_exc, whlB_t, whlB_f, lcA_some, lcB_t, lcB_f, M_ev_var, M_ev_pth, M_ev_cst, M_ev_glb, M_ev_bin, M_ev_neg, M_ev_cmp, M_ev_chn, M_ev_and, M_ev_or, M_ev_not, M_ev_iff, M_ev_tup, M_ev_lst, M_ev_ix, M_ev_slc, M_ev_rev, M_ev_call, M_ev_mth, M_ev_new, M_ev_att, M_ev_bi, M_ev_isi, M_ev_isx, M_ev_dget, M_ev_dct0, M_ev_pop, M_ev_popi, M_ev_lc, M_ev_dc, M_ev_stk, M_tst_e, M_tst_and, M_tst_or, M_tst_not, M_tstO_no, M_tstO_yes, M_evs_nil, M_evs_cons, M_evD_nil, M_evD_cons, M_evO_no, M_evO_yes, M_evI_e, M_evI_r1, M_evI_r2, M_ex_asg, M_ex_par, M_ex_mov, M_ex_aug, M_ex_sIx, M_ex_sAt, M_ex_augIx, M_ex_augAt, M_ex_exp, M_ex_app, M_ex_ext, M_ex_ins, M_ex_iff, M_ex_whl, M_ex_for_, M_ex_forO, M_ex_ret, M_ex_retM, M_ex_retN, M_ex_brk, M_ex_cnt, M_ex_pass, M_ex_rais, M_ex_stk, M_ex_tr, M_exs_nil, M_exs_cons, M_exh_nil, M_exh_cons, List.length_cons, List.length_nil, Nat.zero_add, Nat.reduceAdd, Nat.reduceSub, Nat.reduceLeDiff, Nat.reduceLT, if_pos, List.map_cons, List.map_nil, rb_ok, rb_none, ob_some, ob_none, sGet, List.cons_append, List.nil_append, List.replicate, cmpH, peek, look, peekV, vals_map, fzL_map, vals, cmpD, fits, fit, fitL, eqv, lf, truV, blOf, Bool.false_eq_true, if_false, if_true, List.set, asgH, esc, put, setP, getP, fz, fzL, asgH.lf', asgD, asgNs, biH, peeks, biD, lenV, newH, binH, binD, ixH, subH, toSV, toSVs, setSVs, okS, setH, setV, isOl, appH, fin_next, fin_ret, outsOf, callH, handArgs, handed, noTwice, backArgs, retH_val, retH_ol, retH_od, retH_oi, List.headD_cons, List.tail_cons, List.headD_nil, List.tail_nil, seqOf, decide_true, decide_false, Bool.and_self, Bool.true_and, Bool.and_true, Bool.false_and, Bool.and_false, Bool.not_true, Bool.not_false, Bool.or_true, Bool.or_false, Bool.true_or, Bool.false_or, List.isEmpty_cons, List.isEmpty_nil, reduceCtorEq, List.contains_nil, List.contains_cons, Nat.reduceBEq, sizeOk, atI_c0, atI_c1, atI_c2, atI_c3, atI_c4, slcD, cut_1, intOf, ix_30, ix_31, ix_32, isTy, List.any_cons, List.any_nil, isNon, isNonV, List.length_map, augD, List.getElem?_cons_zero, List.getElem?_cons_succ, Int.reduceLT, ix_10, ix_1m, ix_20, ix_21, ix_2m, ix_3m, ix_40, ix_41, ix_42, ix_43, ix_4m, ix_50, ix_51, ix_52, ix_53, ix_54, ix_5m, ix_60, ix_61, ix_62, ix_63, ix_64, ix_65, ix_6m, ix_70, ix_71, ix_72, ix_73, ix_74, ix_75, ix_76, ix_7m, ix_80, ix_81, ix_82, ix_83, ix_84, ix_85, ix_86, ix_87, ix_8m, rf0, rf1, rf2, rf3, rf4, rf5, rf6, rf7, rf8, rf9, rf10, rf11, rf12, rf13, rf14, rf15, rf16, rf17, rf18, rf19, rf20, rf21, rf22, rf23, rf24, rf25, rf26, rf27, rf28, rf29, rf30, rf31, rf32, rf33, rf34, rf35, rf36, rf37, rf38, varH_strm, h2, h4, hn, j1, j2]
/-! ### small fractions, traces -/
def smS (s : Sm) : Sm := if nx (ns s 8) 3 = 0 then ns (ns (ns (ns s 8) 3) 2000001) 5 else ns (ns (ns s 8) 3) 5
section
variable {N : Int} [hN : Nice N]
theorem w_small (h13 : (1344 : Int) ∣ N) (k : Nat) (s : Sm) : ∃ z, M.call prog (k+2) 28 [strm s] = some (.ok (.val (fr N z)) [strm (smS s)]) := by
  have hn := w_next k
  have pick : ∀ x : Int, 0 ≤ x ∧ x < 5 → ∃ p, (p = 1 ∨ p = 2 ∨ p = 3 ∨ p = 7 ∨ p = 64) ∧ ∃ j, ixN 5 x = some j ∧ ([.val (.int 1), .val (.int 1), .val (.int 2), .val (.int 3), .val (.int 64)] : List SV)[j]? = some (.val (.int p)) := by
    intro x hx
    rcases cases5 hx with rfl | rfl | rfl | rfl | rfl
    · exact ⟨1, by simp, 0, rfl, rfl⟩
    · exact ⟨1, by simp, 1, rfl, rfl⟩
    · exact ⟨2, by simp, 2, rfl, rfl⟩
    · exact ⟨3, by simp, 3, rfl, rfl⟩
    · exact ⟨64, by simp, 4, rfl, rfl⟩
  unfold smS
  by_cases q : nx (ns s 8) 3 = 0
  · rw [if_pos q]
    have q1 : (nx (ns s 8) 3 == (0 : Int)) = true := by simp [q]
    obtain ⟨p, hp, j, j1, j2⟩ := pick _ (nx_bd (ns (ns (ns s 8) 3) 2000001) (size := 5) (by decide))
    obtain ⟨u, hu0, hu⟩ := part_ok h13 hp
    refine ⟨(nx (ns (ns s 8) 3) 2000001 - 1000000) * u, ?_⟩
    have hf := w_lfraction (N := N) k (nx (ns (ns s 8) 3) 2000001 - 1000000) p ((nx (ns (ns s 8) 3) 2000001 - 1000000) * u) (by omega) (by omega) (by rw [← hu, Int.mul_assoc])
    simp -dsimp only [g28, f_law_small, M_run, varH_val, varH_ol, varH_od, varH_oi, M_cx_rf, M_cx_sub, M_cx_call, seqG_next, seqG_ret, seqG_brk, seqG_cnt, nox_ok, wipe, forA_some, forK_next, forK_cnt, forK_brk, forK_ret, forK_exc, whlK_next, whlK_cnt, whlK_brk, whlK_ret, whlK_exc, whlB_t, whlB_f, lcA_some, lcB_t, lcB_f, M_ev_var, M_ev_pth, M_ev_cst, M_ev_glb, M_ev_bin, M_ev_neg, M_ev_cmp, M_ev_chn, M_ev_and, M_ev_or, M_ev_not, M_ev_iff, M_ev_tup, M_ev_lst, M_ev_ix, M_ev_slc, M_ev_rev, M_ev_call, M_ev_mth, M_ev_new, M_ev_att, M_ev_bi, M_ev_isi, M_ev_isx, M_ev_dget, M_ev_dct0, M_ev_pop, M_ev_popi, M_ev_lc, M_ev_dc, M_ev_stk, M_tst_e, M_tst_and, M_tst_or, M_tst_not, M_tstO_no, M_tstO_yes, M_evs_nil, M_evs_cons, M_evD_nil, M_evD_cons, M_evO_no, M_evO_yes, M_evI_e, M_evI_r1, M_evI_r2, M_ex_asg, M_ex_par, M_ex_mov, M_ex_aug, M_ex_sIx, M_ex_sAt, M_ex_augIx, M_ex_augAt, M_ex_exp, M_ex_app, M_ex_ext, M_ex_ins, M_ex_iff, M_ex_whl, M_ex_for_, M_ex_forO, M_ex_ret, M_ex_retM, M_ex_retN, M_ex_brk, M_ex_cnt, M_ex_pass, M_ex_rais, M_ex_stk, M_ex_tr, M_exs_nil, M_exs_cons, M_exh_nil, M_exh_cons, List.length_cons, List.length_nil, Nat.zero_add, Nat.reduceAdd, Nat.reduceSub, Nat.reduceLeDiff, Nat.reduceLT, if_pos, List.map_cons, List.map_nil, rb_ok, rb_none, ob_some, ob_none, sGet, List.cons_append, List.nil_append, List.replicate, cmpH, peek, look, peekV, vals_map, fzL_map, vals, cmpD, fits, fit, fitL, eqv, lf, truV, blOf, Bool.false_eq_true, if_false, if_true, List.set, asgH, esc, put, setP, getP, fz, fzL, asgH.lf', asgD, asgNs, biH, peeks, biD, lenV, newH, binH, binD, ixH, subH, toSV, toSVs, setSVs, okS, setH, setV, isOl, appH, fin_next, fin_ret, outsOf, callH, handArgs, handed, noTwice, backArgs, retH_val, retH_ol, retH_od, retH_oi, List.headD_cons, List.tail_cons, List.headD_nil, List.tail_nil, seqOf, decide_true, decide_false, Bool.and_self, Bool.true_and, Bool.and_true, Bool.false_and, Bool.and_false, Bool.not_true, Bool.not_false, Bool.or_true, Bool.or_false, Bool.true_or, Bool.false_or, List.isEmpty_cons, List.isEmpty_nil, reduceCtorEq, List.contains_nil, List.contains_cons, Nat.reduceBEq, sizeOk, atI_c0, atI_c1, atI_c2, atI_c3, atI_c4, slcD, cut_1, intOf, ix_30, ix_31, ix_32, isTy, List.any_cons, List.any_nil, isNon, isNonV, List.length_map, augD, List.getElem?_cons_zero, List.getElem?_cons_succ, Int.reduceLT, ix_10, ix_1m, ix_20, ix_21, ix_2m, ix_3m, ix_40, ix_41, ix_42, ix_43, ix_4m, ix_50, ix_51, ix_52, ix_53, ix_54, ix_5m, ix_60, ix_61, ix_62, ix_63, ix_64, ix_65, ix_6m, ix_70, ix_71, ix_72, ix_73, ix_74, ix_75, ix_76, ix_7m, ix_80, ix_81, ix_82, ix_83, ix_84, ix_85, ix_86, ix_87, ix_8m, rf0, rf1, rf2, rf3, rf4, rf5, rf6, rf7, rf8, rf9, rf10, rf11, rf12, rf13, rf14, rf15, rf16, rf17, rf18, rf19, rf20, rf21, rf22, rf23, rf24, rf25, rf26, rf27, rf28, rf29, rf30, rf31, rf32, rf33, rf34, rf35, rf36, rf37, rf38, varH_strm, hn, q1, j1, j2, hf]
  · rw [if_neg q]
    have q1 : (nx (ns s 8) 3 == (0 : Int)) = false := by simp [q]
    obtain ⟨p, hp, j, j1, j2⟩ := pick _ (nx_bd (ns (ns s 8) 3) (size := 5) (by decide))
    obtain ⟨u, hu0, hu⟩ := part_ok h13 hp
    refine ⟨(nx s 8 - 3) * u, ?_⟩
    have hf := w_lfraction (N := N) k (nx s 8 - 3) p ((nx s 8 - 3) * u) (by omega) (by omega) (by rw [← hu, Int.mul_assoc])
    simp -dsimp only [g28, f_law_small, M_run, varH_val, varH_ol, varH_od, varH_oi, M_cx_rf, M_cx_sub, M_cx_call, seqG_next, seqG_ret, seqG_brk, seqG_cnt, nox_ok, wipe, forA_some, forK_next, forK_cnt, forK_brk, forK_ret, forK_exc, whlK_next, whlK_cnt, whlK_brk, whlK_ret, whlK_exc, whlB_t, whlB_f, lcA_some, lcB_t, lcB_f, M_ev_var, M_ev_pth, M_ev_cst, M_ev_glb, M_ev_bin, M_ev_neg, M_ev_cmp, M_ev_chn, M_ev_and, M_ev_or, M_ev_not, M_ev_iff, M_ev_tup, M_ev_lst, M_ev_ix, M_ev_slc, M_ev_rev, M_ev_call, M_ev_mth, M_ev_new, M_ev_att, M_ev_bi, M_ev_isi, M_ev_isx, M_ev_dget, M_ev_dct0, M_ev_pop, M_ev_popi, M_ev_lc, M_ev_dc, M_ev_stk, M_tst_e, M_tst_and, M_tst_or, M_tst_not, M_tstO_no, M_tstO_yes, M_evs_nil, M_evs_cons, M_evD_nil, M_evD_cons, M_evO_no, M_evO_yes, M_evI_e, M_evI_r1, M_evI_r2, M_ex_asg, M_ex_par, M_ex_mov, M_ex_aug, M_ex_sIx, M_ex_sAt, M_ex_augIx, M_ex_augAt, M_ex_exp, M_ex_app, M_ex_ext, M_ex_ins, M_ex_iff, M_ex_whl, M_ex_for_, M_ex_forO, M_ex_ret, M_ex_retM, M_ex_retN, M_ex_brk, M_ex_cnt, M_ex_pass, M_ex_rais, M_ex_stk, M_ex_tr, M_exs_nil, M_exs_cons, M_exh_nil, M_exh_cons, List.length_cons, List.length_nil, Nat.zero_add, Nat.reduceAdd, Nat.reduceSub, Nat.reduceLeDiff, Nat.reduceLT, if_pos, List.map_cons, List.map_nil, rb_ok, rb_none, ob_some, ob_none, sGet, List.cons_append, List.nil_append, List.replicate, cmpH, peek, look, peekV, vals_map, fzL_map, vals, cmpD, fits, fit, fitL, eqv, lf, truV, blOf, Bool.false_eq_true, if_false, if_true, List.set, asgH, esc, put, setP, getP, fz, fzL, asgH.lf', asgD, asgNs, biH, peeks, biD, lenV, newH, binH, binD, ixH, subH, toSV, toSVs, setSVs, okS, setH, setV, isOl, appH, fin_next, fin_ret, outsOf, callH, handArgs, handed, noTwice, backArgs, retH_val, retH_ol, retH_od, retH_oi, List.headD_cons, List.tail_cons, List.headD_nil, List.tail_nil, seqOf, decide_true, decide_false, Bool.and_self, Bool.true_and, Bool.and_true, Bool.false_and, Bool.and_false, Bool.not_true, Bool.not_false, Bool.or_true, Bool.or_false, Bool.true_or, Bool.false_or, List.isEmpty_cons, List.isEmpty_nil, reduceCtorEq, List.contains_nil, List.contains_cons, Nat.reduceBEq, sizeOk, atI_c0, atI_c1, atI_c2, atI_c3, atI_c4, slcD, cut_1, intOf, ix_30, ix_31, ix_32, isTy, List.any_cons, List.any_nil, isNon, isNonV, List.length_map, augD, List.getElem?_cons_zero, List.getElem?_cons_succ, Int.reduceLT, ix_10, ix_1m, ix_20, ix_21, ix_2m, ix_3m, ix_40, ix_41, ix_42, ix_43, ix_4m, ix_50, ix_51, ix_52, ix_53, ix_54, ix_5m, ix_60, ix_61, ix_62, ix_63, ix_64, ix_65, ix_6m, ix_70, ix_71, ix_72, ix_73, ix_74, ix_75, ix_76, ix_7m, ix_80, ix_81, ix_82, ix_83, ix_84, ix_85, ix_86, ix_87, ix_8m, rf0, rf1, rf2, rf3, rf4, rf5, rf6, rf7, rf8, rf9, rf10, rf11, rf12, rf13, rf14, rf15, rf16, rf17, rf18, rf19, rf20, rf21, rf22, rf23, rf24, rf25, rf26, rf27, rf28, rf29, rf30, rf31, rf32, rf33, rf34, rf35, rf36, rf37, rf38, varH_strm, hn, q1, j1, j2, hf]
def szS (s : Sm) : Sm := if nx s 24 = 0 then ns (ns s 24) 60 else ns (ns s 24) 6
def szV (s : Sm) : Nat := if nx s 24 = 0 then (nx (ns s 24) 60).toNat else ((nx (ns s 24) 6).fmod 4).toNat
theorem szV_lt (s : Sm) : szV s < 60 := by
  unfold szV
  have := nx_bd (ns s 24) (size := 60) (by decide)
  have := mod_ok (a := nx (ns s 24) 6) (b := 4) (by decide)
  split <;> omega
theorem w_size (k : Nat) (s : Sm) : M.call prog (k+2) 33 [strm s] = some (.ok (.val (.int (szV s))) [strm (szS s)]) := by
  have hn := w_next k
  unfold szV szS
  by_cases q : nx s 24 = 0
  · have q1 : (nx s 24 == (0 : Int)) = true := by simp [q]
    have := nx_bd (ns s 24) (size := 60) (by decide)
    have e : (((nx (ns s 24) 60).toNat : Nat) : Int) = nx (ns s 24) 60 := by omega
    rw [if_pos q, if_pos q, e]
    simp -dsimp only [g33, f_law_size, M_run, varH_val, varH_ol, varH_od, varH_oi, M_cx_rf, M_cx_sub, M_cx_call, seqG_next, seqG_ret, seqG_brk, seqG_cnt, nox_ok, wipe, forA_some, forK_next, forK_cnt, forK_brk, forK_ret, forK_exc, whlK_next, whlK_cnt, whlK_brk, whlK_ret, whlK_exc, whlB_t, whlB_f, lcA_some, lcB_t, lcB_f, M_ev_var, M_ev_pth, M_ev_cst, M_ev_glb, M_ev_bin, M_ev_neg, M_ev_cmp, M_ev_chn, M_ev_and, M_ev_or, M_ev_not, M_ev_iff, M_ev_tup, M_ev_lst, M_ev_ix, M_ev_slc, M_ev_rev, M_ev_call, M_ev_mth, M_ev_new, M_ev_att, M_ev_bi, M_ev_isi, M_ev_isx, M_ev_dget, M_ev_dct0, M_ev_pop, M_ev_popi, M_ev_lc, M_ev_dc, M_ev_stk, M_tst_e, M_tst_and, M_tst_or, M_tst_not, M_tstO_no, M_tstO_yes, M_evs_nil, M_evs_cons, M_evD_nil, M_evD_cons, M_evO_no, M_evO_yes, M_evI_e, M_evI_r1, M_evI_r2, M_ex_asg, M_ex_par, M_ex_mov, M_ex_aug, M_ex_sIx, M_ex_sAt, M_ex_augIx, M_ex_augAt, M_ex_exp, M_ex_app, M_ex_ext, M_ex_ins, M_ex_iff, M_ex_whl, M_ex_for_, M_ex_forO, M_ex_ret, M_ex_retM, M_ex_retN, M_ex_brk, M_ex_cnt, M_ex_pass, M_ex_rais, M_ex_stk, M_ex_tr, M_exs_nil, M_exs_cons, M_exh_nil, M_exh_cons, List.length_cons, List.length_nil, Nat.zero_add, Nat.reduceAdd, Nat.reduceSub, Nat.reduceLeDiff, Nat.reduceLT, if_pos, List.map_cons, List.map_nil, rb_ok, rb_none, ob_some, ob_none, sGet, List.cons_append, List.nil_append, List.replicate, cmpH, peek, look, peekV, vals_map, fzL_map, vals, cmpD, fits, fit, fitL, eqv, lf, truV, blOf, Bool.false_eq_true, if_false, if_true, List.set, asgH, esc, put, setP, getP, fz, fzL, asgH.lf', asgD, asgNs, biH, peeks, biD, lenV, newH, binH, binD, ixH, subH, toSV, toSVs, setSVs, okS, setH, setV, isOl, appH, fin_next, fin_ret, outsOf, callH, handArgs, handed, noTwice, backArgs, retH_val, retH_ol, retH_od, retH_oi, List.headD_cons, List.tail_cons, List.headD_nil, List.tail_nil, seqOf, decide_true, decide_false, Bool.and_self, Bool.true_and, Bool.and_true, Bool.false_and, Bool.and_false, Bool.not_true, Bool.not_false, Bool.or_true, Bool.or_false, Bool.true_or, Bool.false_or, List.isEmpty_cons, List.isEmpty_nil, reduceCtorEq, List.contains_nil, List.contains_cons, Nat.reduceBEq, sizeOk, atI_c0, atI_c1, atI_c2, atI_c3, atI_c4, slcD, cut_1, intOf, ix_30, ix_31, ix_32, isTy, List.any_cons, List.any_nil, isNon, isNonV, List.length_map, augD, List.getElem?_cons_zero, List.getElem?_cons_succ, Int.reduceLT, ix_10, ix_1m, ix_20, ix_21, ix_2m, ix_3m, ix_40, ix_41, ix_42, ix_43, ix_4m, ix_50, ix_51, ix_52, ix_53, ix_54, ix_5m, ix_60, ix_61, ix_62, ix_63, ix_64, ix_65, ix_6m, ix_70, ix_71, ix_72, ix_73, ix_74, ix_75, ix_76, ix_7m, ix_80, ix_81, ix_82, ix_83, ix_84, ix_85, ix_86, ix_87, ix_8m, rf0, rf1, rf2, rf3, rf4, rf5, rf6, rf7, rf8, rf9, rf10, rf11, rf12, rf13, rf14, rf15, rf16, rf17, rf18, rf19, rf20, rf21, rf22, rf23, rf24, rf25, rf26, rf27, rf28, rf29, rf30, rf31, rf32, rf33, rf34, rf35, rf36, rf37, rf38, varH_strm, hn, q1]
  · have q1 : (nx s 24 == (0 : Int)) = false := by simp [q]
    have := mod_ok (a := nx (ns s 24) 6) (b := 4) (by decide)
    have e : ((((nx (ns s 24) 6).fmod 4).toNat : Nat) : Int) = (nx (ns s 24) 6).fmod 4 := by omega
    have n4 : ((4 : Int) ≠ 0) := by decide
    rw [if_neg q, if_neg q, e]
    simp -dsimp only [g33, f_law_size, M_run, varH_val, varH_ol, varH_od, varH_oi, M_cx_rf, M_cx_sub, M_cx_call, seqG_next, seqG_ret, seqG_brk, seqG_cnt, nox_ok, wipe, forA_some, forK_next, forK_cnt, forK_brk, forK_ret, forK_exc, whlK_next, whlK_cnt, whlK_brk, whlK_ret, whlK_exc, whlB_t, whlB_f, lcA_some, lcB_t, lcB_f, M_ev_var, M_ev_pth, M_ev_cst, M_ev_glb, M_ev_bin, M_ev_neg, M_ev_cmp, M_ev_chn, M_ev_and, M_ev_or, M_ev_not, M_ev_iff, M_ev_tup, M_ev_lst, M_ev_ix, M_ev_slc, M_ev_rev, M_ev_call, M_ev_mth, M_ev_new, M_ev_att, M_ev_bi, M_ev_isi, M_ev_isx, M_ev_dget, M_ev_dct0, M_ev_pop, M_ev_popi, M_ev_lc, M_ev_dc, M_ev_stk, M_tst_e, M_tst_and, M_tst_or, M_tst_not, M_tstO_no, M_tstO_yes, M_evs_nil, M_evs_cons, M_evD_nil, M_evD_cons, M_evO_no, M_evO_yes, M_evI_e, M_evI_r1, M_evI_r2, M_ex_asg, M_ex_par, M_ex_mov, M_ex_aug, M_ex_sIx, M_ex_sAt, M_ex_augIx, M_ex_augAt, M_ex_exp, M_ex_app, M_ex_ext, M_ex_ins, M_ex_iff, M_ex_whl, M_ex_for_, M_ex_forO, M_ex_ret, M_ex_retM, M_ex_retN, M_ex_brk, M_ex_cnt, M_ex_pass, M_ex_rais, M_ex_stk, M_ex_tr, M_exs_nil, M_exs_cons, M_exh_nil, M_exh_cons, List.length_cons, List.length_nil, Nat.zero_add, Nat.reduceAdd, Nat.reduceSub, Nat.reduceLeDiff, Nat.reduceLT, if_pos, List.map_cons, List.map_nil, rb_ok, rb_none, ob_some, ob_none, sGet, List.cons_append, List.nil_append, List.replicate, cmpH, peek, look, peekV, vals_map, fzL_map, vals, cmpD, fits, fit, fitL, eqv, lf, truV, blOf, Bool.false_eq_true, if_false, if_true, List.set, asgH, esc, put, setP, getP, fz, fzL, asgH.lf', asgD, asgNs, biH, peeks, biD, lenV, newH, binH, binD, ixH, subH, toSV, toSVs, setSVs, okS, setH, setV, isOl, appH, fin_next, fin_ret, outsOf, callH, handArgs, handed, noTwice, backArgs, retH_val, retH_ol, retH_od, retH_oi, List.headD_cons, List.tail_cons, List.headD_nil, List.tail_nil, seqOf, decide_true, decide_false, Bool.and_self, Bool.true_and, Bool.and_true, Bool.false_and, Bool.and_false, Bool.not_true, Bool.not_false, Bool.or_true, Bool.or_false, Bool.true_or, Bool.false_or, List.isEmpty_cons, List.isEmpty_nil, reduceCtorEq, List.contains_nil, List.contains_cons, Nat.reduceBEq, sizeOk, atI_c0, atI_c1, atI_c2, atI_c3, atI_c4, slcD, cut_1, intOf, ix_30, ix_31, ix_32, isTy, List.any_cons, List.any_nil, isNon, isNonV, List.length_map, augD, List.getElem?_cons_zero, List.getElem?_cons_succ, Int.reduceLT, ix_10, ix_1m, ix_20, ix_21, ix_2m, ix_3m, ix_40, ix_41, ix_42, ix_43, ix_4m, ix_50, ix_51, ix_52, ix_53, ix_54, ix_5m, ix_60, ix_61, ix_62, ix_63, ix_64, ix_65, ix_6m, ix_70, ix_71, ix_72, ix_73, ix_74, ix_75, ix_76, ix_7m, ix_80, ix_81, ix_82, ix_83, ix_84, ix_85, ix_86, ix_87, ix_8m, rf0, rf1, rf2, rf3, rf4, rf5, rf6, rf7, rf8, rf9, rf10, rf11, rf12, rf13, rf14, rf15, rf16, rf17, rf18, rf19, rf20, rf21, rf22, rf23, rf24, rf25, rf26, rf27, rf28, rf29, rf30, rf31, rf32, rf33, rf34, rf35, rf36, rf37, rf38, varH_strm, hn, q1, n4, ne_eq, not_false_eq_true]
def stS (l : Nat) (s : Sm) : Sm := ns (smS s) l
def trS (l : Nat) (s : Sm) : Nat → Sm
  | 0 => s
  | n + 1 => trS l (stS l s) n
abbrev bTr : Ss := (.cons (.app (.var 3) (.tup (.cons (.call 28 (.cons (.var 0) .nil)) (.cons (.ix (.var 1) (.call 15 (.cons (.var 0) (.cons (.bi .len (.cons (.var 1) .nil)) .nil)))) .nil)))) .nil)
theorem pool_at {pool : List D} {i : Int} (h : 0 ≤ i ∧ i < pool.length) : ∃ d ∈ pool, ∃ j, ixN pool.length i = some j ∧ (pool.map SV.val)[j]? = some (.val d) := by
  have hi : i.toNat < pool.length := by omega
  refine ⟨pool[i.toNat], List.getElem_mem hi, i.toNat, ?_, ?_⟩
  · unfold ixN
    rw [if_pos h.1, if_pos h.2]
  · rw [List.getElem?_map, List.getElem?_eq_getElem hi]
    rfl
theorem tr_loop (h13 : (1344 : Int) ∣ N) (k : Nat) (pool : List D) (hp : pool ≠ []) (hp2 : pool.length ≤ 1000) (x : Option SV) : ∀ (n i : Nat) (s : Sm) (acc : List SV) (a : Option SV), acc.length + n ≤ 1000 → ∃ (a' : Option SV) (us : List (Int × D)), us.length = n ∧ (∀ p ∈ us, p.2 ∈ pool) ∧
    M.for_ (M.cx prog (k+2)) (.nm 4) bTr ((List.range' i n).map fun (k : Nat) => D.int (k : Int)) [some (strm s), some (.ol (pool.map SV.val)), x, some (.ol acc), a] =
      some (.ok .next [some (strm (trS pool.length s n)), some (.ol (pool.map SV.val)), x, some (.ol (acc ++ us.map fun p => SV.val (item N p))), a']) := by
  intro n
  induction n with
  | zero => exact fun i s acc a _ => ⟨a, [], rfl, nofun, by rw [List.range'_zero, List.map_nil, M_for_nil]; simp [trS]⟩
  | succ n ih =>
    intro i s acc a ha
    obtain ⟨z, hz⟩ := w_small h13 k s
    have hpl : (0 : Int) < (pool.length : Int) := by have := List.length_pos_iff.mpr hp; omega
    have hn := w_next (k+1) (smS s) pool.length hpl (by omega)
    obtain ⟨d, hd, j, j1, j2⟩ := pool_at (nx_bd (smS s) hpl)
    obtain ⟨a', us, h1, h2, h3⟩ := ih (i + 1) (stS pool.length s) (acc ++ [.val (item N (z, d))]) (some (.val (.int i))) (by rw [List.length_append, List.length_singleton]; omega)
    refine ⟨a', (z, d) :: us, by simp [h1], ?_, ?_⟩
    · intro p hp
      rcases List.mem_cons.mp hp with rfl | hp
      · exact hd
      · exact h2 p hp
    · have hE : acc ++ ((z, d) :: us).map (fun p => SV.val (item N p)) = (acc ++ [.val (item N (z, d))]) ++ us.map fun p => SV.val (item N p) := by simp
      have zz : (acc.length + 1 ≤ 16777216) := by omega
      unfold trS
      rw [hE, ← h3, List.range'_succ, List.map_cons, M_for_cons]
      unfold stS item
      simp -dsimp only [M_run, varH_val, varH_ol, varH_od, varH_oi, M_cx_rf, M_cx_sub, M_cx_call, seqG_next, seqG_ret, seqG_brk, seqG_cnt, nox_ok, wipe, forA_some, forK_next, forK_cnt, forK_brk, forK_ret, forK_exc, whlK_next, whlK_cnt, whlK_brk, whlK_ret, whlK_exc, whlB_t, whlB_f, lcA_some, lcB_t, lcB_f, M_ev_var, M_ev_pth, M_ev_cst, M_ev_glb, M_ev_bin, M_ev_neg, M_ev_cmp, M_ev_chn, M_ev_and, M_ev_or, M_ev_not, M_ev_iff, M_ev_tup, M_ev_lst, M_ev_ix, M_ev_slc, M_ev_rev, M_ev_call, M_ev_mth, M_ev_new, M_ev_att, M_ev_bi, M_ev_isi, M_ev_isx, M_ev_dget, M_ev_dct0, M_ev_pop, M_ev_popi, M_ev_lc, M_ev_dc, M_ev_stk, M_tst_e, M_tst_and, M_tst_or, M_tst_not, M_tstO_no, M_tstO_yes, M_evs_nil, M_evs_cons, M_evD_nil, M_evD_cons, M_evO_no, M_evO_yes, M_evI_e, M_evI_r1, M_evI_r2, M_ex_asg, M_ex_par, M_ex_mov, M_ex_aug, M_ex_sIx, M_ex_sAt, M_ex_augIx, M_ex_augAt, M_ex_exp, M_ex_app, M_ex_ext, M_ex_ins, M_ex_iff, M_ex_whl, M_ex_for_, M_ex_forO, M_ex_ret, M_ex_retM, M_ex_retN, M_ex_brk, M_ex_cnt, M_ex_pass, M_ex_rais, M_ex_stk, M_ex_tr, M_exs_nil, M_exs_cons, M_exh_nil, M_exh_cons, List.length_cons, List.length_nil, Nat.zero_add, Nat.reduceAdd, Nat.reduceSub, Nat.reduceLeDiff, Nat.reduceLT, if_pos, List.map_cons, List.map_nil, rb_ok, rb_none, ob_some, ob_none, sGet, List.cons_append, List.nil_append, List.replicate, cmpH, peek, look, peekV, vals_map, fzL_map, vals, cmpD, fits, fit, fitL, eqv, lf, truV, blOf, Bool.false_eq_true, if_false, if_true, List.set, asgH, esc, put, setP, getP, fz, fzL, asgH.lf', asgD, asgNs, biH, peeks, biD, lenV, newH, binH, binD, ixH, subH, toSV, toSVs, setSVs, okS, setH, setV, isOl, appH, fin_next, fin_ret, outsOf, callH, handArgs, handed, noTwice, backArgs, retH_val, retH_ol, retH_od, retH_oi, List.headD_cons, List.tail_cons, List.headD_nil, List.tail_nil, seqOf, decide_true, decide_false, Bool.and_self, Bool.true_and, Bool.and_true, Bool.false_and, Bool.and_false, Bool.not_true, Bool.not_false, Bool.or_true, Bool.or_false, Bool.true_or, Bool.false_or, List.isEmpty_cons, List.isEmpty_nil, reduceCtorEq, List.contains_nil, List.contains_cons, Nat.reduceBEq, sizeOk, atI_c0, atI_c1, atI_c2, atI_c3, atI_c4, slcD, cut_1, intOf, ix_30, ix_31, ix_32, isTy, List.any_cons, List.any_nil, isNon, isNonV, List.length_map, augD, List.getElem?_cons_zero, List.getElem?_cons_succ, Int.reduceLT, ix_10, ix_1m, ix_20, ix_21, ix_2m, ix_3m, ix_40, ix_41, ix_42, ix_43, ix_4m, ix_50, ix_51, ix_52, ix_53, ix_54, ix_5m, ix_60, ix_61, ix_62, ix_63, ix_64, ix_65, ix_6m, ix_70, ix_71, ix_72, ix_73, ix_74, ix_75, ix_76, ix_7m, ix_80, ix_81, ix_82, ix_83, ix_84, ix_85, ix_86, ix_87, ix_8m, rf0, rf1, rf2, rf3, rf4, rf5, rf6, rf7, rf8, rf9, rf10, rf11, rf12, rf13, rf14, rf15, rf16, rf17, rf18, rf19, rf20, rf21, rf22, rf23, rf24, rf25, rf26, rf27, rf28, rf29, rf30, rf31, rf32, rf33, rf34, rf35, rf36, rf37, rf38, varH_strm, hz, hn, j1, j2, zz, forK_next]
theorem w_trace (h13 : (1344 : Int) ∣ N) (k : Nat) (pool : List D) (hp : pool ≠ []) (hp2 : pool.length ≤ 1000) (s : Sm) (n : Nat) (hn : n ≤ 100) : ∃ t : Trc, t.1.length = n ∧ (∀ p ∈ t.1, p.2 ∈ pool) ∧
    M.call prog (k+3) 29 [strm s, .ol (pool.map SV.val), .val (.int n)] = some (.ok (.val (tr N t)) [strm (smS (trS pool.length s n)), .ol (pool.map SV.val)]) := by
  obtain ⟨a', us, h1, h2, h3⟩ := tr_loop (N := N) h13 k pool hp hp2 (some (.val (.int n))) n 0 s [] none (by simp; omega)
  obtain ⟨z, hz⟩ := w_small (N := N) h13 k (trS pool.length s n)
  have hr := rngK_nat (n := n) (by omega)
  have hv : vals (us.map fun p => SV.val (item N p)) = some (us.map (item N)) := by
    have := vals_map (us.map (item N))
    rwa [List.map_map] at this
  refine ⟨(us, z), h1, h2, ?_⟩
  rw [List.nil_append, ← List.range_eq_range'] at h3
  simp -dsimp only [g29, f_law_trace, M_run, varH_val, varH_ol, varH_od, varH_oi, M_cx_rf, M_cx_sub, M_cx_call, seqG_next, seqG_ret, seqG_brk, seqG_cnt, nox_ok, wipe, forA_some, forK_next, forK_cnt, forK_brk, forK_ret, forK_exc, whlK_next, whlK_cnt, whlK_brk, whlK_ret, whlK_exc, whlB_t, whlB_f, lcA_some, lcB_t, lcB_f, M_ev_var, M_ev_pth, M_ev_cst, M_ev_glb, M_ev_bin, M_ev_neg, M_ev_cmp, M_ev_chn, M_ev_and, M_ev_or, M_ev_not, M_ev_iff, M_ev_tup, M_ev_lst, M_ev_ix, M_ev_slc, M_ev_rev, M_ev_call, M_ev_mth, M_ev_new, M_ev_att, M_ev_bi, M_ev_isi, M_ev_isx, M_ev_dget, M_ev_dct0, M_ev_pop, M_ev_popi, M_ev_lc, M_ev_dc, M_ev_stk, M_tst_e, M_tst_and, M_tst_or, M_tst_not, M_tstO_no, M_tstO_yes, M_evs_nil, M_evs_cons, M_evD_nil, M_evD_cons, M_evO_no, M_evO_yes, M_evI_e, M_evI_r1, M_evI_r2, M_ex_asg, M_ex_par, M_ex_mov, M_ex_aug, M_ex_sIx, M_ex_sAt, M_ex_augIx, M_ex_augAt, M_ex_exp, M_ex_app, M_ex_ext, M_ex_ins, M_ex_iff, M_ex_whl, M_ex_for_, M_ex_forO, M_ex_ret, M_ex_retM, M_ex_retN, M_ex_brk, M_ex_cnt, M_ex_pass, M_ex_rais, M_ex_stk, M_ex_tr, M_exs_nil, M_exs_cons, M_exh_nil, M_exh_cons, List.length_cons, List.length_nil, Nat.zero_add, Nat.reduceAdd, Nat.reduceSub, Nat.reduceLeDiff, Nat.reduceLT, if_pos, List.map_cons, List.map_nil, rb_ok, rb_none, ob_some, ob_none, sGet, List.cons_append, List.nil_append, List.replicate, cmpH, peek, look, peekV, vals_map, fzL_map, vals, cmpD, fits, fit, fitL, eqv, lf, truV, blOf, Bool.false_eq_true, if_false, if_true, List.set, asgH, esc, put, setP, getP, fz, fzL, asgH.lf', asgD, asgNs, biH, peeks, biD, lenV, newH, binH, binD, ixH, subH, toSV, toSVs, setSVs, okS, setH, setV, isOl, appH, fin_next, fin_ret, outsOf, callH, handArgs, handed, noTwice, backArgs, retH_val, retH_ol, retH_od, retH_oi, List.headD_cons, List.tail_cons, List.headD_nil, List.tail_nil, seqOf, decide_true, decide_false, Bool.and_self, Bool.true_and, Bool.and_true, Bool.false_and, Bool.and_false, Bool.not_true, Bool.not_false, Bool.or_true, Bool.or_false, Bool.true_or, Bool.false_or, List.isEmpty_cons, List.isEmpty_nil, reduceCtorEq, List.contains_nil, List.contains_cons, Nat.reduceBEq, sizeOk, atI_c0, atI_c1, atI_c2, atI_c3, atI_c4, slcD, cut_1, intOf, ix_30, ix_31, ix_32, isTy, List.any_cons, List.any_nil, isNon, isNonV, List.length_map, augD, List.getElem?_cons_zero, List.getElem?_cons_succ, Int.reduceLT, ix_10, ix_1m, ix_20, ix_21, ix_2m, ix_3m, ix_40, ix_41, ix_42, ix_43, ix_4m, ix_50, ix_51, ix_52, ix_53, ix_54, ix_5m, ix_60, ix_61, ix_62, ix_63, ix_64, ix_65, ix_6m, ix_70, ix_71, ix_72, ix_73, ix_74, ix_75, ix_76, ix_7m, ix_80, ix_81, ix_82, ix_83, ix_84, ix_85, ix_86, ix_87, ix_8m, rf0, rf1, rf2, rf3, rf4, rf5, rf6, rf7, rf8, rf9, rf10, rf11, rf12, rf13, rf14, rf15, rf16, rf17, rf18, rf19, rf20, rf21, rf22, rf23, rf24, rf25, rf26, rf27, rf28, rf29, rf30, rf31, rf32, rf33, rf34, rf35, rf36, rf37, rf38, varH_strm, hr, h3, hz, hv, tr]
end
end K89
end

section
set_option maxRecDepth 100000
set_option Elab.async false
set_option linter.all false
/-! W12: walks: two traces. -/
namespace K89
open Pv
theorem atI_lst {α : Type} (xs : List α) (x : α) : atI (xs ++ [x]) (-1) = some x := by
  rw [atI_last _ (by simp)]; simp
theorem cut_ini {α : Type} (xs : List α) (x : α) : cut (xs ++ [x]) none (some (-1)) = xs := by
  rw [cut_init, List.dropLast_concat]
def trE (l : Nat) (s : Sm) (n : Nat) : Sm := smS (trS l s n)
def stp (l : Nat) (s : Sm) : Sm := trE l (szS s) (szV s)
/-- the denominator that may come in -/
def den (l : Nat) (s : Sm) : Int := 1 + nx (ns (stp l (stp l (stp l s))) 8) 99
theorem den_bd (l : Nat) (s : Sm) : 1 ≤ den l s ∧ den l s ≤ 99 := by
  have := nx_bd (ns (stp l (stp l (stp l s))) 8) (size := 99) (by decide)
  unfold den
  omega
theorem den_bd' (s : Sm) : 1 ≤ 1 + nx (ns s 8) 99 := by
  have := nx_bd (ns s 8) (size := 99) (by decide)
  omega
section
variable {N : Int} [hN : Nice N]
structure TrOk (pool : List D) (n : Nat) (u : Trc) : Prop where
  ln : u.1.length ≤ n
  ms : ∀ p ∈ u.1, p.2 ∈ pool
theorem TrOk.app {pool : List D} {n m : Nat} {u : Trc} {v : List (Int × D)} {z : Int} (h : TrOk pool n u) (h1 : v.length ≤ m) (h2 : ∀ p ∈ v, p.2 ∈ pool) : TrOk pool (n + m) (u.1 ++ v, z) := by
  refine ⟨?_, fun p hp => ?_⟩
  · simp only [List.length_append]; have := h.ln; omega
  · rcases List.mem_append.mp hp with hp | hp
    · exact h.ms p hp
    · exact h2 p hp
theorem w_two (k : Nat) (pool : List D) (hp : pool ≠ []) (hp2 : pool.length ≤ 1000) (s : Sm) (hd : 1344 * den pool.length s ∣ N) : ∃ u v s', TrOk pool 200 u ∧ TrOk pool 200 v ∧
    M.call prog (k+4) 34 [strm s, .ol (pool.map SV.val)] = some (.ok (.val (.tup [tr N u, tr N v])) [strm s', .ol (pool.map SV.val)]) := by
  have h13 : (1344 : Int) ∣ N := Int.dvd_trans ⟨den pool.length s, rfl⟩ hd
  have hz := w_size (k+1)
  have hnx := w_next (k+2)
  have b1 := szV_lt s
  have b2 := szV_lt (stp pool.length s)
  have b3 := szV_lt (stp pool.length (stp pool.length s))
  obtain ⟨⟨hs, hr⟩, l1, m1, t1⟩ := w_trace (N := N) h13 k pool hp hp2 (szS s) (szV s) (by omega)
  obtain ⟨⟨fs, fr'⟩, l2, m2, t2⟩ := w_trace (N := N) h13 k pool hp hp2 (szS (stp pool.length s)) (szV (stp pool.length s)) (by omega)
  obtain ⟨⟨gs, gr⟩, l3, m3, t3⟩ := w_trace (N := N) h13 k pool hp hp2 (szS (stp pool.length (stp pool.length s))) (szV (stp pool.length (stp pool.length s))) (by omega)
  have e1 : smS (trS pool.length (szS s) (szV s)) = stp pool.length s := rfl
  have e2 : smS (trS pool.length (szS (stp pool.length s)) (szV (stp pool.length s))) = stp pool.length (stp pool.length s) := rfl
  have e3 : smS (trS pool.length (szS (stp pool.length (stp pool.length s))) (szV (stp pool.length (stp pool.length s)))) = stp pool.length (stp pool.length (stp pool.length s)) := rfl
  rw [e1] at t1
  rw [e2] at t2
  rw [e3] at t3
  simp only at l1 l2 l3 m1 m2 m3
  unfold den at hd
  have bd := nx_bd (stp pool.length (stp pool.length (stp pool.length s))) (size := 8) (by decide)
  generalize stp pool.length (stp pool.length (stp pool.length s)) = s3 at *
  have kd : nx s3 8 = 0 ∨ nx s3 8 = 1 ∨ nx s3 8 = 2 ∨ nx s3 8 = 3 ∨ nx s3 8 = 4 ∨ nx s3 8 = 5 ∨ nx s3 8 = 6 ∨ nx s3 8 = 7 := by omega
  have lh : (hs.length ≤ 16777216) := by omega
  have lf' : (hs.length + fs.length ≤ 16777216) := by omega
  have lg : (hs.length + gs.length ≤ 16777216) := by omega
  have e02 : decide ((0 : Int) < 2) = true := by decide
  have mm : ∀ us : List (Int × D), (∀ p ∈ us, p.2 ∈ pool) → us.length ≤ 100 → ∀ z, TrOk pool 200 (hs ++ us, z) := fun us h1 h2 z =>
    ⟨by simp only [List.length_append]; omega, fun p hp => by
      rcases List.mem_append.mp hp with hp | hp
      · exact m1 p hp
      · exact h1 p hp⟩
  have eqs : ∀ i j : Int, (i == j) = decide (i = j) := fun i j => by by_cases q : i = j <;> simp [q]
  have e10 : decide ((0 : Int) < ((0 : Nat) : Int)) = false := by decide
  unfold tr at t1 t2 t3
  rcases kd with q | q | q | q | q | q | q | q
  · refine ⟨(hs, fr'), (hs ++ gs, gr), ns s3 8, by simpa using mm [] nofun (by simp) fr', mm gs m3 (by omega) gr, ?_⟩
    simp -dsimp only [g34, f_law_two_traces, M_run, varH_val, varH_ol, varH_od, varH_oi, M_cx_rf, M_cx_sub, M_cx_call, seqG_next, seqG_ret, seqG_brk, seqG_cnt, nox_ok, wipe, forA_some, forK_next, forK_cnt, forK_brk, forK_ret, forK_exc, whlK_next, whlK_cnt, whlK_brk, whlK_ret, whlK_exc, whlB_t, whlB_f, lcA_some, lcB_t, lcB_f, M_ev_var, M_ev_pth, M_ev_cst, M_ev_glb, M_ev_bin, M_ev_neg, M_ev_cmp, M_ev_chn, M_ev_and, M_ev_or, M_ev_not, M_ev_iff, M_ev_tup, M_ev_lst, M_ev_ix, M_ev_slc, M_ev_rev, M_ev_call, M_ev_mth, M_ev_new, M_ev_att, M_ev_bi, M_ev_isi, M_ev_isx, M_ev_dget, M_ev_dct0, M_ev_pop, M_ev_popi, M_ev_lc, M_ev_dc, M_ev_stk, M_tst_e, M_tst_and, M_tst_or, M_tst_not, M_tstO_no, M_tstO_yes, M_evs_nil, M_evs_cons, M_evD_nil, M_evD_cons, M_evO_no, M_evO_yes, M_evI_e, M_evI_r1, M_evI_r2, M_ex_asg, M_ex_par, M_ex_mov, M_ex_aug, M_ex_sIx, M_ex_sAt, M_ex_augIx, M_ex_augAt, M_ex_exp, M_ex_app, M_ex_ext, M_ex_ins, M_ex_iff, M_ex_whl, M_ex_for_, M_ex_forO, M_ex_ret, M_ex_retM, M_ex_retN, M_ex_brk, M_ex_cnt, M_ex_pass, M_ex_rais, M_ex_stk, M_ex_tr, M_exs_nil, M_exs_cons, M_exh_nil, M_exh_cons, List.length_cons, List.length_nil, Nat.zero_add, Nat.reduceAdd, Nat.reduceSub, Nat.reduceLeDiff, Nat.reduceLT, if_pos, List.map_cons, List.map_nil, rb_ok, rb_none, ob_some, ob_none, sGet, List.cons_append, List.nil_append, List.replicate, cmpH, peek, look, peekV, vals_map, fzL_map, vals, cmpD, fits, fit, fitL, eqv, lf, truV, blOf, Bool.false_eq_true, if_false, if_true, List.set, asgH, esc, put, setP, getP, fz, fzL, asgH.lf', asgD, asgNs, biH, peeks, biD, lenV, newH, binH, binD, ixH, subH, toSV, toSVs, setSVs, okS, setH, setV, isOl, appH, fin_next, fin_ret, outsOf, callH, handArgs, handed, noTwice, backArgs, retH_val, retH_ol, retH_od, retH_oi, List.headD_cons, List.tail_cons, List.headD_nil, List.tail_nil, seqOf, decide_true, decide_false, Bool.and_self, Bool.true_and, Bool.and_true, Bool.false_and, Bool.and_false, Bool.not_true, Bool.not_false, Bool.or_true, Bool.or_false, Bool.true_or, Bool.false_or, List.isEmpty_cons, List.isEmpty_nil, reduceCtorEq, List.contains_nil, List.contains_cons, Nat.reduceBEq, sizeOk, atI_c0, atI_c1, atI_c2, atI_c3, atI_c4, slcD, cut_1, intOf, ix_30, ix_31, ix_32, isTy, List.any_cons, List.any_nil, isNon, isNonV, List.length_map, augD, List.getElem?_cons_zero, List.getElem?_cons_succ, Int.reduceLT, ix_10, ix_1m, ix_20, ix_21, ix_2m, ix_3m, ix_40, ix_41, ix_42, ix_43, ix_4m, ix_50, ix_51, ix_52, ix_53, ix_54, ix_5m, ix_60, ix_61, ix_62, ix_63, ix_64, ix_65, ix_6m, ix_70, ix_71, ix_72, ix_73, ix_74, ix_75, ix_76, ix_7m, ix_80, ix_81, ix_82, ix_83, ix_84, ix_85, ix_86, ix_87, ix_8m, rf0, rf1, rf2, rf3, rf4, rf5, rf6, rf7, rf8, rf9, rf10, rf11, rf12, rf13, rf14, rf15, rf16, rf17, rf18, rf19, rf20, rf21, rf22, rf23, rf24, rf25, rf26, rf27, rf28, rf29, rf30, rf31, rf32, rf33, rf34, rf35, rf36, rf37, rf38, varH_strm, hz, t1, t2, t3, hnx, q, eqs, Int.reduceEq, lg, lh, e10, List.length_map, List.append_nil, Nat.add_zero, ← List.map_append, tr]
  · refine ⟨(hs, fr'), (hs, gr), ns s3 8, by simpa using mm [] nofun (by simp) fr', by simpa using mm [] nofun (by simp) gr, ?_⟩
    simp -dsimp only [g34, f_law_two_traces, M_run, varH_val, varH_ol, varH_od, varH_oi, M_cx_rf, M_cx_sub, M_cx_call, seqG_next, seqG_ret, seqG_brk, seqG_cnt, nox_ok, wipe, forA_some, forK_next, forK_cnt, forK_brk, forK_ret, forK_exc, whlK_next, whlK_cnt, whlK_brk, whlK_ret, whlK_exc, whlB_t, whlB_f, lcA_some, lcB_t, lcB_f, M_ev_var, M_ev_pth, M_ev_cst, M_ev_glb, M_ev_bin, M_ev_neg, M_ev_cmp, M_ev_chn, M_ev_and, M_ev_or, M_ev_not, M_ev_iff, M_ev_tup, M_ev_lst, M_ev_ix, M_ev_slc, M_ev_rev, M_ev_call, M_ev_mth, M_ev_new, M_ev_att, M_ev_bi, M_ev_isi, M_ev_isx, M_ev_dget, M_ev_dct0, M_ev_pop, M_ev_popi, M_ev_lc, M_ev_dc, M_ev_stk, M_tst_e, M_tst_and, M_tst_or, M_tst_not, M_tstO_no, M_tstO_yes, M_evs_nil, M_evs_cons, M_evD_nil, M_evD_cons, M_evO_no, M_evO_yes, M_evI_e, M_evI_r1, M_evI_r2, M_ex_asg, M_ex_par, M_ex_mov, M_ex_aug, M_ex_sIx, M_ex_sAt, M_ex_augIx, M_ex_augAt, M_ex_exp, M_ex_app, M_ex_ext, M_ex_ins, M_ex_iff, M_ex_whl, M_ex_for_, M_ex_forO, M_ex_ret, M_ex_retM, M_ex_retN, M_ex_brk, M_ex_cnt, M_ex_pass, M_ex_rais, M_ex_stk, M_ex_tr, M_exs_nil, M_exs_cons, M_exh_nil, M_exh_cons, List.length_cons, List.length_nil, Nat.zero_add, Nat.reduceAdd, Nat.reduceSub, Nat.reduceLeDiff, Nat.reduceLT, if_pos, List.map_cons, List.map_nil, rb_ok, rb_none, ob_some, ob_none, sGet, List.cons_append, List.nil_append, List.replicate, cmpH, peek, look, peekV, vals_map, fzL_map, vals, cmpD, fits, fit, fitL, eqv, lf, truV, blOf, Bool.false_eq_true, if_false, if_true, List.set, asgH, esc, put, setP, getP, fz, fzL, asgH.lf', asgD, asgNs, biH, peeks, biD, lenV, newH, binH, binD, ixH, subH, toSV, toSVs, setSVs, okS, setH, setV, isOl, appH, fin_next, fin_ret, outsOf, callH, handArgs, handed, noTwice, backArgs, retH_val, retH_ol, retH_od, retH_oi, List.headD_cons, List.tail_cons, List.headD_nil, List.tail_nil, seqOf, decide_true, decide_false, Bool.and_self, Bool.true_and, Bool.and_true, Bool.false_and, Bool.and_false, Bool.not_true, Bool.not_false, Bool.or_true, Bool.or_false, Bool.true_or, Bool.false_or, List.isEmpty_cons, List.isEmpty_nil, reduceCtorEq, List.contains_nil, List.contains_cons, Nat.reduceBEq, sizeOk, atI_c0, atI_c1, atI_c2, atI_c3, atI_c4, slcD, cut_1, intOf, ix_30, ix_31, ix_32, isTy, List.any_cons, List.any_nil, isNon, isNonV, List.length_map, augD, List.getElem?_cons_zero, List.getElem?_cons_succ, Int.reduceLT, ix_10, ix_1m, ix_20, ix_21, ix_2m, ix_3m, ix_40, ix_41, ix_42, ix_43, ix_4m, ix_50, ix_51, ix_52, ix_53, ix_54, ix_5m, ix_60, ix_61, ix_62, ix_63, ix_64, ix_65, ix_6m, ix_70, ix_71, ix_72, ix_73, ix_74, ix_75, ix_76, ix_7m, ix_80, ix_81, ix_82, ix_83, ix_84, ix_85, ix_86, ix_87, ix_8m, rf0, rf1, rf2, rf3, rf4, rf5, rf6, rf7, rf8, rf9, rf10, rf11, rf12, rf13, rf14, rf15, rf16, rf17, rf18, rf19, rf20, rf21, rf22, rf23, rf24, rf25, rf26, rf27, rf28, rf29, rf30, rf31, rf32, rf33, rf34, rf35, rf36, rf37, rf38, varH_strm, hz, t1, t2, t3, hnx, q, eqs, Int.reduceEq, lg, lh, e10, List.length_map, List.append_nil, Nat.add_zero, ← List.map_append, tr]
  · refine ⟨(hs ++ fs, fr'), (hs, gr), ns s3 8, mm fs m2 (by omega) fr', by simpa using mm [] nofun (by simp) gr, ?_⟩
    simp -dsimp only [g34, f_law_two_traces, M_run, varH_val, varH_ol, varH_od, varH_oi, M_cx_rf, M_cx_sub, M_cx_call, seqG_next, seqG_ret, seqG_brk, seqG_cnt, nox_ok, wipe, forA_some, forK_next, forK_cnt, forK_brk, forK_ret, forK_exc, whlK_next, whlK_cnt, whlK_brk, whlK_ret, whlK_exc, whlB_t, whlB_f, lcA_some, lcB_t, lcB_f, M_ev_var, M_ev_pth, M_ev_cst, M_ev_glb, M_ev_bin, M_ev_neg, M_ev_cmp, M_ev_chn, M_ev_and, M_ev_or, M_ev_not, M_ev_iff, M_ev_tup, M_ev_lst, M_ev_ix, M_ev_slc, M_ev_rev, M_ev_call, M_ev_mth, M_ev_new, M_ev_att, M_ev_bi, M_ev_isi, M_ev_isx, M_ev_dget, M_ev_dct0, M_ev_pop, M_ev_popi, M_ev_lc, M_ev_dc, M_ev_stk, M_tst_e, M_tst_and, M_tst_or, M_tst_not, M_tstO_no, M_tstO_yes, M_evs_nil, M_evs_cons, M_evD_nil, M_evD_cons, M_evO_no, M_evO_yes, M_evI_e, M_evI_r1, M_evI_r2, M_ex_asg, M_ex_par, M_ex_mov, M_ex_aug, M_ex_sIx, M_ex_sAt, M_ex_augIx, M_ex_augAt, M_ex_exp, M_ex_app, M_ex_ext, M_ex_ins, M_ex_iff, M_ex_whl, M_ex_for_, M_ex_forO, M_ex_ret, M_ex_retM, M_ex_retN, M_ex_brk, M_ex_cnt, M_ex_pass, M_ex_rais, M_ex_stk, M_ex_tr, M_exs_nil, M_exs_cons, M_exh_nil, M_exh_cons, List.length_cons, List.length_nil, Nat.zero_add, Nat.reduceAdd, Nat.reduceSub, Nat.reduceLeDiff, Nat.reduceLT, if_pos, List.map_cons, List.map_nil, rb_ok, rb_none, ob_some, ob_none, sGet, List.cons_append, List.nil_append, List.replicate, cmpH, peek, look, peekV, vals_map, fzL_map, vals, cmpD, fits, fit, fitL, eqv, lf, truV, blOf, Bool.false_eq_true, if_false, if_true, List.set, asgH, esc, put, setP, getP, fz, fzL, asgH.lf', asgD, asgNs, biH, peeks, biD, lenV, newH, binH, binD, ixH, subH, toSV, toSVs, setSVs, okS, setH, setV, isOl, appH, fin_next, fin_ret, outsOf, callH, handArgs, handed, noTwice, backArgs, retH_val, retH_ol, retH_od, retH_oi, List.headD_cons, List.tail_cons, List.headD_nil, List.tail_nil, seqOf, decide_true, decide_false, Bool.and_self, Bool.true_and, Bool.and_true, Bool.false_and, Bool.and_false, Bool.not_true, Bool.not_false, Bool.or_true, Bool.or_false, Bool.true_or, Bool.false_or, List.isEmpty_cons, List.isEmpty_nil, reduceCtorEq, List.contains_nil, List.contains_cons, Nat.reduceBEq, sizeOk, atI_c0, atI_c1, atI_c2, atI_c3, atI_c4, slcD, cut_1, intOf, ix_30, ix_31, ix_32, isTy, List.any_cons, List.any_nil, isNon, isNonV, List.length_map, augD, List.getElem?_cons_zero, List.getElem?_cons_succ, Int.reduceLT, ix_10, ix_1m, ix_20, ix_21, ix_2m, ix_3m, ix_40, ix_41, ix_42, ix_43, ix_4m, ix_50, ix_51, ix_52, ix_53, ix_54, ix_5m, ix_60, ix_61, ix_62, ix_63, ix_64, ix_65, ix_6m, ix_70, ix_71, ix_72, ix_73, ix_74, ix_75, ix_76, ix_7m, ix_80, ix_81, ix_82, ix_83, ix_84, ix_85, ix_86, ix_87, ix_8m, rf0, rf1, rf2, rf3, rf4, rf5, rf6, rf7, rf8, rf9, rf10, rf11, rf12, rf13, rf14, rf15, rf16, rf17, rf18, rf19, rf20, rf21, rf22, rf23, rf24, rf25, rf26, rf27, rf28, rf29, rf30, rf31, rf32, rf33, rf34, rf35, rf36, rf37, rf38, varH_strm, hz, t1, t2, t3, hnx, q, eqs, Int.reduceEq, lg, lh, lf', List.length_map, List.append_nil, Nat.add_zero, ← List.map_append, tr]
  · refine ⟨(hs ++ fs, fr'), (hs, gr), ns s3 8, mm fs m2 (by omega) fr', by simpa using mm [] nofun (by simp) gr, ?_⟩
    simp -dsimp only [g34, f_law_two_traces, M_run, varH_val, varH_ol, varH_od, varH_oi, M_cx_rf, M_cx_sub, M_cx_call, seqG_next, seqG_ret, seqG_brk, seqG_cnt, nox_ok, wipe, forA_some, forK_next, forK_cnt, forK_brk, forK_ret, forK_exc, whlK_next, whlK_cnt, whlK_brk, whlK_ret, whlK_exc, whlB_t, whlB_f, lcA_some, lcB_t, lcB_f, M_ev_var, M_ev_pth, M_ev_cst, M_ev_glb, M_ev_bin, M_ev_neg, M_ev_cmp, M_ev_chn, M_ev_and, M_ev_or, M_ev_not, M_ev_iff, M_ev_tup, M_ev_lst, M_ev_ix, M_ev_slc, M_ev_rev, M_ev_call, M_ev_mth, M_ev_new, M_ev_att, M_ev_bi, M_ev_isi, M_ev_isx, M_ev_dget, M_ev_dct0, M_ev_pop, M_ev_popi, M_ev_lc, M_ev_dc, M_ev_stk, M_tst_e, M_tst_and, M_tst_or, M_tst_not, M_tstO_no, M_tstO_yes, M_evs_nil, M_evs_cons, M_evD_nil, M_evD_cons, M_evO_no, M_evO_yes, M_evI_e, M_evI_r1, M_evI_r2, M_ex_asg, M_ex_par, M_ex_mov, M_ex_aug, M_ex_sIx, M_ex_sAt, M_ex_augIx, M_ex_augAt, M_ex_exp, M_ex_app, M_ex_ext, M_ex_ins, M_ex_iff, M_ex_whl, M_ex_for_, M_ex_forO, M_ex_ret, M_ex_retM, M_ex_retN, M_ex_brk, M_ex_cnt, M_ex_pass, M_ex_rais, M_ex_stk, M_ex_tr, M_exs_nil, M_exs_cons, M_exh_nil, M_exh_cons, List.length_cons, List.length_nil, Nat.zero_add, Nat.reduceAdd, Nat.reduceSub, Nat.reduceLeDiff, Nat.reduceLT, if_pos, List.map_cons, List.map_nil, rb_ok, rb_none, ob_some, ob_none, sGet, List.cons_append, List.nil_append, List.replicate, cmpH, peek, look, peekV, vals_map, fzL_map, vals, cmpD, fits, fit, fitL, eqv, lf, truV, blOf, Bool.false_eq_true, if_false, if_true, List.set, asgH, esc, put, setP, getP, fz, fzL, asgH.lf', asgD, asgNs, biH, peeks, biD, lenV, newH, binH, binD, ixH, subH, toSV, toSVs, setSVs, okS, setH, setV, isOl, appH, fin_next, fin_ret, outsOf, callH, handArgs, handed, noTwice, backArgs, retH_val, retH_ol, retH_od, retH_oi, List.headD_cons, List.tail_cons, List.headD_nil, List.tail_nil, seqOf, decide_true, decide_false, Bool.and_self, Bool.true_and, Bool.and_true, Bool.false_and, Bool.and_false, Bool.not_true, Bool.not_false, Bool.or_true, Bool.or_false, Bool.true_or, Bool.false_or, List.isEmpty_cons, List.isEmpty_nil, reduceCtorEq, List.contains_nil, List.contains_cons, Nat.reduceBEq, sizeOk, atI_c0, atI_c1, atI_c2, atI_c3, atI_c4, slcD, cut_1, intOf, ix_30, ix_31, ix_32, isTy, List.any_cons, List.any_nil, isNon, isNonV, List.length_map, augD, List.getElem?_cons_zero, List.getElem?_cons_succ, Int.reduceLT, ix_10, ix_1m, ix_20, ix_21, ix_2m, ix_3m, ix_40, ix_41, ix_42, ix_43, ix_4m, ix_50, ix_51, ix_52, ix_53, ix_54, ix_5m, ix_60, ix_61, ix_62, ix_63, ix_64, ix_65, ix_6m, ix_70, ix_71, ix_72, ix_73, ix_74, ix_75, ix_76, ix_7m, ix_80, ix_81, ix_82, ix_83, ix_84, ix_85, ix_86, ix_87, ix_8m, rf0, rf1, rf2, rf3, rf4, rf5, rf6, rf7, rf8, rf9, rf10, rf11, rf12, rf13, rf14, rf15, rf16, rf17, rf18, rf19, rf20, rf21, rf22, rf23, rf24, rf25, rf26, rf27, rf28, rf29, rf30, rf31, rf32, rf33, rf34, rf35, rf36, rf37, rf38, varH_strm, hz, t1, t2, t3, hnx, q, eqs, Int.reduceEq, lg, lh, lf', List.length_map, List.append_nil, Nat.add_zero, ← List.map_append, tr]
  · refine ⟨(hs ++ fs, fr'), (hs ++ fs, gr), ns s3 8, mm fs m2 (by omega) fr', mm fs m2 (by omega) gr, ?_⟩
    simp -dsimp only [g34, f_law_two_traces, M_run, varH_val, varH_ol, varH_od, varH_oi, M_cx_rf, M_cx_sub, M_cx_call, seqG_next, seqG_ret, seqG_brk, seqG_cnt, nox_ok, wipe, forA_some, forK_next, forK_cnt, forK_brk, forK_ret, forK_exc, whlK_next, whlK_cnt, whlK_brk, whlK_ret, whlK_exc, whlB_t, whlB_f, lcA_some, lcB_t, lcB_f, M_ev_var, M_ev_pth, M_ev_cst, M_ev_glb, M_ev_bin, M_ev_neg, M_ev_cmp, M_ev_chn, M_ev_and, M_ev_or, M_ev_not, M_ev_iff, M_ev_tup, M_ev_lst, M_ev_ix, M_ev_slc, M_ev_rev, M_ev_call, M_ev_mth, M_ev_new, M_ev_att, M_ev_bi, M_ev_isi, M_ev_isx, M_ev_dget, M_ev_dct0, M_ev_pop, M_ev_popi, M_ev_lc, M_ev_dc, M_ev_stk, M_tst_e, M_tst_and, M_tst_or, M_tst_not, M_tstO_no, M_tstO_yes, M_evs_nil, M_evs_cons, M_evD_nil, M_evD_cons, M_evO_no, M_evO_yes, M_evI_e, M_evI_r1, M_evI_r2, M_ex_asg, M_ex_par, M_ex_mov, M_ex_aug, M_ex_sIx, M_ex_sAt, M_ex_augIx, M_ex_augAt, M_ex_exp, M_ex_app, M_ex_ext, M_ex_ins, M_ex_iff, M_ex_whl, M_ex_for_, M_ex_forO, M_ex_ret, M_ex_retM, M_ex_retN, M_ex_brk, M_ex_cnt, M_ex_pass, M_ex_rais, M_ex_stk, M_ex_tr, M_exs_nil, M_exs_cons, M_exh_nil, M_exh_cons, List.length_cons, List.length_nil, Nat.zero_add, Nat.reduceAdd, Nat.reduceSub, Nat.reduceLeDiff, Nat.reduceLT, if_pos, List.map_cons, List.map_nil, rb_ok, rb_none, ob_some, ob_none, sGet, List.cons_append, List.nil_append, List.replicate, cmpH, peek, look, peekV, vals_map, fzL_map, vals, cmpD, fits, fit, fitL, eqv, lf, truV, blOf, Bool.false_eq_true, if_false, if_true, List.set, asgH, esc, put, setP, getP, fz, fzL, asgH.lf', asgD, asgNs, biH, peeks, biD, lenV, newH, binH, binD, ixH, subH, toSV, toSVs, setSVs, okS, setH, setV, isOl, appH, fin_next, fin_ret, outsOf, callH, handArgs, handed, noTwice, backArgs, retH_val, retH_ol, retH_od, retH_oi, List.headD_cons, List.tail_cons, List.headD_nil, List.tail_nil, seqOf, decide_true, decide_false, Bool.and_self, Bool.true_and, Bool.and_true, Bool.false_and, Bool.and_false, Bool.not_true, Bool.not_false, Bool.or_true, Bool.or_false, Bool.true_or, Bool.false_or, List.isEmpty_cons, List.isEmpty_nil, reduceCtorEq, List.contains_nil, List.contains_cons, Nat.reduceBEq, sizeOk, atI_c0, atI_c1, atI_c2, atI_c3, atI_c4, slcD, cut_1, intOf, ix_30, ix_31, ix_32, isTy, List.any_cons, List.any_nil, isNon, isNonV, List.length_map, augD, List.getElem?_cons_zero, List.getElem?_cons_succ, Int.reduceLT, ix_10, ix_1m, ix_20, ix_21, ix_2m, ix_3m, ix_40, ix_41, ix_42, ix_43, ix_4m, ix_50, ix_51, ix_52, ix_53, ix_54, ix_5m, ix_60, ix_61, ix_62, ix_63, ix_64, ix_65, ix_6m, ix_70, ix_71, ix_72, ix_73, ix_74, ix_75, ix_76, ix_7m, ix_80, ix_81, ix_82, ix_83, ix_84, ix_85, ix_86, ix_87, ix_8m, rf0, rf1, rf2, rf3, rf4, rf5, rf6, rf7, rf8, rf9, rf10, rf11, rf12, rf13, rf14, rf15, rf16, rf17, rf18, rf19, rf20, rf21, rf22, rf23, rf24, rf25, rf26, rf27, rf28, rf29, rf30, rf31, rf32, rf33, rf34, rf35, rf36, rf37, rf38, varH_strm, hz, t1, t2, t3, hnx, q, eqs, Int.reduceEq, lg, lh, lf', List.length_map, List.append_nil, Nat.add_zero, ← List.map_append, tr]
  · refine ⟨(hs ++ fs, fr'), (hs ++ fs, fr'), ns s3 8, mm fs m2 (by omega) fr', mm fs m2 (by omega) fr', ?_⟩
    simp -dsimp only [g34, f_law_two_traces, M_run, varH_val, varH_ol, varH_od, varH_oi, M_cx_rf, M_cx_sub, M_cx_call, seqG_next, seqG_ret, seqG_brk, seqG_cnt, nox_ok, wipe, forA_some, forK_next, forK_cnt, forK_brk, forK_ret, forK_exc, whlK_next, whlK_cnt, whlK_brk, whlK_ret, whlK_exc, whlB_t, whlB_f, lcA_some, lcB_t, lcB_f, M_ev_var, M_ev_pth, M_ev_cst, M_ev_glb, M_ev_bin, M_ev_neg, M_ev_cmp, M_ev_chn, M_ev_and, M_ev_or, M_ev_not, M_ev_iff, M_ev_tup, M_ev_lst, M_ev_ix, M_ev_slc, M_ev_rev, M_ev_call, M_ev_mth, M_ev_new, M_ev_att, M_ev_bi, M_ev_isi, M_ev_isx, M_ev_dget, M_ev_dct0, M_ev_pop, M_ev_popi, M_ev_lc, M_ev_dc, M_ev_stk, M_tst_e, M_tst_and, M_tst_or, M_tst_not, M_tstO_no, M_tstO_yes, M_evs_nil, M_evs_cons, M_evD_nil, M_evD_cons, M_evO_no, M_evO_yes, M_evI_e, M_evI_r1, M_evI_r2, M_ex_asg, M_ex_par, M_ex_mov, M_ex_aug, M_ex_sIx, M_ex_sAt, M_ex_augIx, M_ex_augAt, M_ex_exp, M_ex_app, M_ex_ext, M_ex_ins, M_ex_iff, M_ex_whl, M_ex_for_, M_ex_forO, M_ex_ret, M_ex_retM, M_ex_retN, M_ex_brk, M_ex_cnt, M_ex_pass, M_ex_rais, M_ex_stk, M_ex_tr, M_exs_nil, M_exs_cons, M_exh_nil, M_exh_cons, List.length_cons, List.length_nil, Nat.zero_add, Nat.reduceAdd, Nat.reduceSub, Nat.reduceLeDiff, Nat.reduceLT, if_pos, List.map_cons, List.map_nil, rb_ok, rb_none, ob_some, ob_none, sGet, List.cons_append, List.nil_append, List.replicate, cmpH, peek, look, peekV, vals_map, fzL_map, vals, cmpD, fits, fit, fitL, eqv, lf, truV, blOf, Bool.false_eq_true, if_false, if_true, List.set, asgH, esc, put, setP, getP, fz, fzL, asgH.lf', asgD, asgNs, biH, peeks, biD, lenV, newH, binH, binD, ixH, subH, toSV, toSVs, setSVs, okS, setH, setV, isOl, appH, fin_next, fin_ret, outsOf, callH, handArgs, handed, noTwice, backArgs, retH_val, retH_ol, retH_od, retH_oi, List.headD_cons, List.tail_cons, List.headD_nil, List.tail_nil, seqOf, decide_true, decide_false, Bool.and_self, Bool.true_and, Bool.and_true, Bool.false_and, Bool.and_false, Bool.not_true, Bool.not_false, Bool.or_true, Bool.or_false, Bool.true_or, Bool.false_or, List.isEmpty_cons, List.isEmpty_nil, reduceCtorEq, List.contains_nil, List.contains_cons, Nat.reduceBEq, sizeOk, atI_c0, atI_c1, atI_c2, atI_c3, atI_c4, slcD, cut_1, intOf, ix_30, ix_31, ix_32, isTy, List.any_cons, List.any_nil, isNon, isNonV, List.length_map, augD, List.getElem?_cons_zero, List.getElem?_cons_succ, Int.reduceLT, ix_10, ix_1m, ix_20, ix_21, ix_2m, ix_3m, ix_40, ix_41, ix_42, ix_43, ix_4m, ix_50, ix_51, ix_52, ix_53, ix_54, ix_5m, ix_60, ix_61, ix_62, ix_63, ix_64, ix_65, ix_6m, ix_70, ix_71, ix_72, ix_73, ix_74, ix_75, ix_76, ix_7m, ix_80, ix_81, ix_82, ix_83, ix_84, ix_85, ix_86, ix_87, ix_8m, rf0, rf1, rf2, rf3, rf4, rf5, rf6, rf7, rf8, rf9, rf10, rf11, rf12, rf13, rf14, rf15, rf16, rf17, rf18, rf19, rf20, rf21, rf22, rf23, rf24, rf25, rf26, rf27, rf28, rf29, rf30, rf31, rf32, rf33, rf34, rf35, rf36, rf37, rf38, varH_strm, hz, t1, t2, t3, hnx, q, eqs, Int.reduceEq, lg, lh, lf', List.length_map, List.append_nil, Nat.add_zero, ← List.map_append, tr]
  · rcases List.eq_nil_or_concat fs with rfl | ⟨is, ⟨z, w⟩, rfl⟩
    · refine ⟨(hs, fr'), (hs ++ gs, gr), ns s3 8, by simpa using mm [] nofun (by simp) fr', mm gs m3 (by omega) gr, ?_⟩
      simp -dsimp only [g34, f_law_two_traces, M_run, varH_val, varH_ol, varH_od, varH_oi, M_cx_rf, M_cx_sub, M_cx_call, seqG_next, seqG_ret, seqG_brk, seqG_cnt, nox_ok, wipe, forA_some, forK_next, forK_cnt, forK_brk, forK_ret, forK_exc, whlK_next, whlK_cnt, whlK_brk, whlK_ret, whlK_exc, whlB_t, whlB_f, lcA_some, lcB_t, lcB_f, M_ev_var, M_ev_pth, M_ev_cst, M_ev_glb, M_ev_bin, M_ev_neg, M_ev_cmp, M_ev_chn, M_ev_and, M_ev_or, M_ev_not, M_ev_iff, M_ev_tup, M_ev_lst, M_ev_ix, M_ev_slc, M_ev_rev, M_ev_call, M_ev_mth, M_ev_new, M_ev_att, M_ev_bi, M_ev_isi, M_ev_isx, M_ev_dget, M_ev_dct0, M_ev_pop, M_ev_popi, M_ev_lc, M_ev_dc, M_ev_stk, M_tst_e, M_tst_and, M_tst_or, M_tst_not, M_tstO_no, M_tstO_yes, M_evs_nil, M_evs_cons, M_evD_nil, M_evD_cons, M_evO_no, M_evO_yes, M_evI_e, M_evI_r1, M_evI_r2, M_ex_asg, M_ex_par, M_ex_mov, M_ex_aug, M_ex_sIx, M_ex_sAt, M_ex_augIx, M_ex_augAt, M_ex_exp, M_ex_app, M_ex_ext, M_ex_ins, M_ex_iff, M_ex_whl, M_ex_for_, M_ex_forO, M_ex_ret, M_ex_retM, M_ex_retN, M_ex_brk, M_ex_cnt, M_ex_pass, M_ex_rais, M_ex_stk, M_ex_tr, M_exs_nil, M_exs_cons, M_exh_nil, M_exh_cons, List.length_cons, List.length_nil, Nat.zero_add, Nat.reduceAdd, Nat.reduceSub, Nat.reduceLeDiff, Nat.reduceLT, if_pos, List.map_cons, List.map_nil, rb_ok, rb_none, ob_some, ob_none, sGet, List.cons_append, List.nil_append, List.replicate, cmpH, peek, look, peekV, vals_map, fzL_map, vals, cmpD, fits, fit, fitL, eqv, lf, truV, blOf, Bool.false_eq_true, if_false, if_true, List.set, asgH, esc, put, setP, getP, fz, fzL, asgH.lf', asgD, asgNs, biH, peeks, biD, lenV, newH, binH, binD, ixH, subH, toSV, toSVs, setSVs, okS, setH, setV, isOl, appH, fin_next, fin_ret, outsOf, callH, handArgs, handed, noTwice, backArgs, retH_val, retH_ol, retH_od, retH_oi, List.headD_cons, List.tail_cons, List.headD_nil, List.tail_nil, seqOf, decide_true, decide_false, Bool.and_self, Bool.true_and, Bool.and_true, Bool.false_and, Bool.and_false, Bool.not_true, Bool.not_false, Bool.or_true, Bool.or_false, Bool.true_or, Bool.false_or, List.isEmpty_cons, List.isEmpty_nil, reduceCtorEq, List.contains_nil, List.contains_cons, Nat.reduceBEq, sizeOk, atI_c0, atI_c1, atI_c2, atI_c3, atI_c4, slcD, cut_1, intOf, ix_30, ix_31, ix_32, isTy, List.any_cons, List.any_nil, isNon, isNonV, List.length_map, augD, List.getElem?_cons_zero, List.getElem?_cons_succ, Int.reduceLT, ix_10, ix_1m, ix_20, ix_21, ix_2m, ix_3m, ix_40, ix_41, ix_42, ix_43, ix_4m, ix_50, ix_51, ix_52, ix_53, ix_54, ix_5m, ix_60, ix_61, ix_62, ix_63, ix_64, ix_65, ix_6m, ix_70, ix_71, ix_72, ix_73, ix_74, ix_75, ix_76, ix_7m, ix_80, ix_81, ix_82, ix_83, ix_84, ix_85, ix_86, ix_87, ix_8m, rf0, rf1, rf2, rf3, rf4, rf5, rf6, rf7, rf8, rf9, rf10, rf11, rf12, rf13, rf14, rf15, rf16, rf17, rf18, rf19, rf20, rf21, rf22, rf23, rf24, rf25, rf26, rf27, rf28, rf29, rf30, rf31, rf32, rf33, rf34, rf35, rf36, rf37, rf38, varH_strm, hz, t1, t2, t3, hnx, q, eqs, Int.reduceEq, lg, lh, e10, List.length_map, List.append_nil, Nat.add_zero, ← List.map_append, tr]
    · have dl := den_bd' s3
      obtain ⟨c, hc⟩ := hd
      have hfc : Fc N (.tup [.int 1, .int (1 + nx (ns s3 8) 99)]) (1344 * c) := ⟨1, 1 + nx (ns s3 8) 99, rfl, by omega, Int.le_of_dvd hN.pos ⟨1344 * c, by rw [hc]; simp only [Int.mul_assoc, Int.mul_left_comm, Int.mul_comm]⟩, by rw [hc]; simp only [Int.mul_assoc, Int.mul_left_comm, Int.mul_comm, Int.one_mul]⟩
      have hq := w_lplus (N := N) (k+1) (Fc.fr N z) hfc
      simp only [List.concat_eq_append] at *
      have l2' : is.length + 1 ≤ 100 := by rw [List.length_append, List.length_singleton] at l2; omega
      have z1 : decide ((0 : Int) < ((is.length + 1 : Nat) : Int)) = true := decide_eq_true (by omega)
      have lf2 : (is.length + 1 ≤ 16777216) := by omega
      have lf3 : (hs.length + (is.length + 1) ≤ 16777216) := by omega
      have hw : w ∈ pool := m2 (z, w) (by simp)
      have hi : ∀ p ∈ is, p.2 ∈ pool := fun p hp => m2 p (List.mem_append_left _ hp)
      refine ⟨(hs ++ (is ++ [(z, w)]), fr'), (hs ++ (is ++ [(z + 1344 * c, w)]), fr'), ns (ns s3 8) 99, mm _ m2 (by simp; omega) fr', mm _ ?_ (by simp; omega) fr', ?_⟩
      · intro p hp
        rcases List.mem_append.mp hp with hp | hp
        · exact hi p hp
        · rw [List.mem_singleton.mp hp]; exact hw
      · simp only [List.map_append, List.map_cons, List.map_nil] at t2
        simp -dsimp only [g34, f_law_two_traces, M_run, varH_val, varH_ol, varH_od, varH_oi, M_cx_rf, M_cx_sub, M_cx_call, seqG_next, seqG_ret, seqG_brk, seqG_cnt, nox_ok, wipe, forA_some, forK_next, forK_cnt, forK_brk, forK_ret, forK_exc, whlK_next, whlK_cnt, whlK_brk, whlK_ret, whlK_exc, whlB_t, whlB_f, lcA_some, lcB_t, lcB_f, M_ev_var, M_ev_pth, M_ev_cst, M_ev_glb, M_ev_bin, M_ev_neg, M_ev_cmp, M_ev_chn, M_ev_and, M_ev_or, M_ev_not, M_ev_iff, M_ev_tup, M_ev_lst, M_ev_ix, M_ev_slc, M_ev_rev, M_ev_call, M_ev_mth, M_ev_new, M_ev_att, M_ev_bi, M_ev_isi, M_ev_isx, M_ev_dget, M_ev_dct0, M_ev_pop, M_ev_popi, M_ev_lc, M_ev_dc, M_ev_stk, M_tst_e, M_tst_and, M_tst_or, M_tst_not, M_tstO_no, M_tstO_yes, M_evs_nil, M_evs_cons, M_evD_nil, M_evD_cons, M_evO_no, M_evO_yes, M_evI_e, M_evI_r1, M_evI_r2, M_ex_asg, M_ex_par, M_ex_mov, M_ex_aug, M_ex_sIx, M_ex_sAt, M_ex_augIx, M_ex_augAt, M_ex_exp, M_ex_app, M_ex_ext, M_ex_ins, M_ex_iff, M_ex_whl, M_ex_for_, M_ex_forO, M_ex_ret, M_ex_retM, M_ex_retN, M_ex_brk, M_ex_cnt, M_ex_pass, M_ex_rais, M_ex_stk, M_ex_tr, M_exs_nil, M_exs_cons, M_exh_nil, M_exh_cons, List.length_cons, List.length_nil, Nat.zero_add, Nat.reduceAdd, Nat.reduceSub, Nat.reduceLeDiff, Nat.reduceLT, if_pos, List.map_cons, List.map_nil, rb_ok, rb_none, ob_some, ob_none, sGet, List.cons_append, List.nil_append, List.replicate, cmpH, peek, look, peekV, vals_map, fzL_map, vals, cmpD, fits, fit, fitL, eqv, lf, truV, blOf, Bool.false_eq_true, if_false, if_true, List.set, asgH, esc, put, setP, getP, fz, fzL, asgH.lf', asgD, asgNs, biH, peeks, biD, lenV, newH, binH, binD, ixH, subH, toSV, toSVs, setSVs, okS, setH, setV, isOl, appH, fin_next, fin_ret, outsOf, callH, handArgs, handed, noTwice, backArgs, retH_val, retH_ol, retH_od, retH_oi, List.headD_cons, List.tail_cons, List.headD_nil, List.tail_nil, seqOf, decide_true, decide_false, Bool.and_self, Bool.true_and, Bool.and_true, Bool.false_and, Bool.and_false, Bool.not_true, Bool.not_false, Bool.or_true, Bool.or_false, Bool.true_or, Bool.false_or, List.isEmpty_cons, List.isEmpty_nil, reduceCtorEq, List.contains_nil, List.contains_cons, Nat.reduceBEq, sizeOk, atI_c0, atI_c1, atI_c2, atI_c3, atI_c4, slcD, cut_1, intOf, ix_30, ix_31, ix_32, isTy, List.any_cons, List.any_nil, isNon, isNonV, List.length_map, augD, List.getElem?_cons_zero, List.getElem?_cons_succ, Int.reduceLT, ix_10, ix_1m, ix_20, ix_21, ix_2m, ix_3m, ix_40, ix_41, ix_42, ix_43, ix_4m, ix_50, ix_51, ix_52, ix_53, ix_54, ix_5m, ix_60, ix_61, ix_62, ix_63, ix_64, ix_65, ix_6m, ix_70, ix_71, ix_72, ix_73, ix_74, ix_75, ix_76, ix_7m, ix_80, ix_81, ix_82, ix_83, ix_84, ix_85, ix_86, ix_87, ix_8m, rf0, rf1, rf2, rf3, rf4, rf5, rf6, rf7, rf8, rf9, rf10, rf11, rf12, rf13, rf14, rf15, rf16, rf17, rf18, rf19, rf20, rf21, rf22, rf23, rf24, rf25, rf26, rf27, rf28, rf29, rf30, rf31, rf32, rf33, rf34, rf35, rf36, rf37, rf38, varH_strm, hz, t1, t2, t3, hnx, q, eqs, Int.reduceEq, lg, lh, lf2, lf3, hq, z1, List.length_map, List.length_append, List.append_nil, Nat.add_zero, List.map_append, tr, item, atI_lst, cut_ini]
  · rcases List.eq_nil_or_concat fs with rfl | ⟨is, ⟨z, w⟩, rfl⟩
    · refine ⟨(hs, fr'), (hs ++ gs, gr), ns s3 8, by simpa using mm [] nofun (by simp) fr', mm gs m3 (by omega) gr, ?_⟩
      simp -dsimp only [g34, f_law_two_traces, M_run, varH_val, varH_ol, varH_od, varH_oi, M_cx_rf, M_cx_sub, M_cx_call, seqG_next, seqG_ret, seqG_brk, seqG_cnt, nox_ok, wipe, forA_some, forK_next, forK_cnt, forK_brk, forK_ret, forK_exc, whlK_next, whlK_cnt, whlK_brk, whlK_ret, whlK_exc, whlB_t, whlB_f, lcA_some, lcB_t, lcB_f, M_ev_var, M_ev_pth, M_ev_cst, M_ev_glb, M_ev_bin, M_ev_neg, M_ev_cmp, M_ev_chn, M_ev_and, M_ev_or, M_ev_not, M_ev_iff, M_ev_tup, M_ev_lst, M_ev_ix, M_ev_slc, M_ev_rev, M_ev_call, M_ev_mth, M_ev_new, M_ev_att, M_ev_bi, M_ev_isi, M_ev_isx, M_ev_dget, M_ev_dct0, M_ev_pop, M_ev_popi, M_ev_lc, M_ev_dc, M_ev_stk, M_tst_e, M_tst_and, M_tst_or, M_tst_not, M_tstO_no, M_tstO_yes, M_evs_nil, M_evs_cons, M_evD_nil, M_evD_cons, M_evO_no, M_evO_yes, M_evI_e, M_evI_r1, M_evI_r2, M_ex_asg, M_ex_par, M_ex_mov, M_ex_aug, M_ex_sIx, M_ex_sAt, M_ex_augIx, M_ex_augAt, M_ex_exp, M_ex_app, M_ex_ext, M_ex_ins, M_ex_iff, M_ex_whl, M_ex_for_, M_ex_forO, M_ex_ret, M_ex_retM, M_ex_retN, M_ex_brk, M_ex_cnt, M_ex_pass, M_ex_rais, M_ex_stk, M_ex_tr, M_exs_nil, M_exs_cons, M_exh_nil, M_exh_cons, List.length_cons, List.length_nil, Nat.zero_add, Nat.reduceAdd, Nat.reduceSub, Nat.reduceLeDiff, Nat.reduceLT, if_pos, List.map_cons, List.map_nil, rb_ok, rb_none, ob_some, ob_none, sGet, List.cons_append, List.nil_append, List.replicate, cmpH, peek, look, peekV, vals_map, fzL_map, vals, cmpD, fits, fit, fitL, eqv, lf, truV, blOf, Bool.false_eq_true, if_false, if_true, List.set, asgH, esc, put, setP, getP, fz, fzL, asgH.lf', asgD, asgNs, biH, peeks, biD, lenV, newH, binH, binD, ixH, subH, toSV, toSVs, setSVs, okS, setH, setV, isOl, appH, fin_next, fin_ret, outsOf, callH, handArgs, handed, noTwice, backArgs, retH_val, retH_ol, retH_od, retH_oi, List.headD_cons, List.tail_cons, List.headD_nil, List.tail_nil, seqOf, decide_true, decide_false, Bool.and_self, Bool.true_and, Bool.and_true, Bool.false_and, Bool.and_false, Bool.not_true, Bool.not_false, Bool.or_true, Bool.or_false, Bool.true_or, Bool.false_or, List.isEmpty_cons, List.isEmpty_nil, reduceCtorEq, List.contains_nil, List.contains_cons, Nat.reduceBEq, sizeOk, atI_c0, atI_c1, atI_c2, atI_c3, atI_c4, slcD, cut_1, intOf, ix_30, ix_31, ix_32, isTy, List.any_cons, List.any_nil, isNon, isNonV, List.length_map, augD, List.getElem?_cons_zero, List.getElem?_cons_succ, Int.reduceLT, ix_10, ix_1m, ix_20, ix_21, ix_2m, ix_3m, ix_40, ix_41, ix_42, ix_43, ix_4m, ix_50, ix_51, ix_52, ix_53, ix_54, ix_5m, ix_60, ix_61, ix_62, ix_63, ix_64, ix_65, ix_6m, ix_70, ix_71, ix_72, ix_73, ix_74, ix_75, ix_76, ix_7m, ix_80, ix_81, ix_82, ix_83, ix_84, ix_85, ix_86, ix_87, ix_8m, rf0, rf1, rf2, rf3, rf4, rf5, rf6, rf7, rf8, rf9, rf10, rf11, rf12, rf13, rf14, rf15, rf16, rf17, rf18, rf19, rf20, rf21, rf22, rf23, rf24, rf25, rf26, rf27, rf28, rf29, rf30, rf31, rf32, rf33, rf34, rf35, rf36, rf37, rf38, varH_strm, hz, t1, t2, t3, hnx, q, eqs, Int.reduceEq, lg, lh, e10, List.length_map, List.append_nil, Nat.add_zero, ← List.map_append, tr]
    · have hpl : (0 : Int) < (pool.length : Int) := by have := List.length_pos_iff.mpr hp; omega
      have hnp := w_next (k+2) (ns s3 8) pool.length hpl (by omega)
      obtain ⟨d, hd', j, j1, j2⟩ := pool_at (nx_bd (ns s3 8) hpl)
      simp only [List.concat_eq_append] at *
      have l2' : is.length + 1 ≤ 100 := by rw [List.length_append, List.length_singleton] at l2; omega
      have z1 : decide ((0 : Int) < ((is.length + 1 : Nat) : Int)) = true := decide_eq_true (by omega)
      have lf2 : (is.length + 1 ≤ 16777216) := by omega
      have lf3 : (hs.length + (is.length + 1) ≤ 16777216) := by omega
      have hi : ∀ p ∈ is, p.2 ∈ pool := fun p hp => m2 p (List.mem_append_left _ hp)
      refine ⟨(hs ++ (is ++ [(z, w)]), fr'), (hs ++ (is ++ [(z, d)]), fr'), ns (ns s3 8) pool.length, mm _ m2 (by simp; omega) fr', mm _ ?_ (by simp; omega) fr', ?_⟩
      · intro p hp
        rcases List.mem_append.mp hp with hp | hp
        · exact hi p hp
        · rw [List.mem_singleton.mp hp]; exact hd'
      · simp only [List.map_append, List.map_cons, List.map_nil] at t2
        simp -dsimp only [g34, f_law_two_traces, M_run, varH_val, varH_ol, varH_od, varH_oi, M_cx_rf, M_cx_sub, M_cx_call, seqG_next, seqG_ret, seqG_brk, seqG_cnt, nox_ok, wipe, forA_some, forK_next, forK_cnt, forK_brk, forK_ret, forK_exc, whlK_next, whlK_cnt, whlK_brk, whlK_ret, whlK_exc, whlB_t, whlB_f, lcA_some, lcB_t, lcB_f, M_ev_var, M_ev_pth, M_ev_cst, M_ev_glb, M_ev_bin, M_ev_neg, M_ev_cmp, M_ev_chn, M_ev_and, M_ev_or, M_ev_not, M_ev_iff, M_ev_tup, M_ev_lst, M_ev_ix, M_ev_slc, M_ev_rev, M_ev_call, M_ev_mth, M_ev_new, M_ev_att, M_ev_bi, M_ev_isi, M_ev_isx, M_ev_dget, M_ev_dct0, M_ev_pop, M_ev_popi, M_ev_lc, M_ev_dc, M_ev_stk, M_tst_e, M_tst_and, M_tst_or, M_tst_not, M_tstO_no, M_tstO_yes, M_evs_nil, M_evs_cons, M_evD_nil, M_evD_cons, M_evO_no, M_evO_yes, M_evI_e, M_evI_r1, M_evI_r2, M_ex_asg, M_ex_par, M_ex_mov, M_ex_aug, M_ex_sIx, M_ex_sAt, M_ex_augIx, M_ex_augAt, M_ex_exp, M_ex_app, M_ex_ext, M_ex_ins, M_ex_iff, M_ex_whl, M_ex_for_, M_ex_forO, M_ex_ret, M_ex_retM, M_ex_retN, M_ex_brk, M_ex_cnt, M_ex_pass, M_ex_rais, M_ex_stk, M_ex_tr, M_exs_nil, M_exs_cons, M_exh_nil, M_exh_cons, List.length_cons, List.length_nil, Nat.zero_add, Nat.reduceAdd, Nat.reduceSub, Nat.reduceLeDiff, Nat.reduceLT, if_pos, List.map_cons, List.map_nil, rb_ok, rb_none, ob_some, ob_none, sGet, List.cons_append, List.nil_append, List.replicate, cmpH, peek, look, peekV, vals_map, fzL_map, vals, cmpD, fits, fit, fitL, eqv, lf, truV, blOf, Bool.false_eq_true, if_false, if_true, List.set, asgH, esc, put, setP, getP, fz, fzL, asgH.lf', asgD, asgNs, biH, peeks, biD, lenV, newH, binH, binD, ixH, subH, toSV, toSVs, setSVs, okS, setH, setV, isOl, appH, fin_next, fin_ret, outsOf, callH, handArgs, handed, noTwice, backArgs, retH_val, retH_ol, retH_od, retH_oi, List.headD_cons, List.tail_cons, List.headD_nil, List.tail_nil, seqOf, decide_true, decide_false, Bool.and_self, Bool.true_and, Bool.and_true, Bool.false_and, Bool.and_false, Bool.not_true, Bool.not_false, Bool.or_true, Bool.or_false, Bool.true_or, Bool.false_or, List.isEmpty_cons, List.isEmpty_nil, reduceCtorEq, List.contains_nil, List.contains_cons, Nat.reduceBEq, sizeOk, atI_c0, atI_c1, atI_c2, atI_c3, atI_c4, slcD, cut_1, intOf, ix_30, ix_31, ix_32, isTy, List.any_cons, List.any_nil, isNon, isNonV, List.length_map, augD, List.getElem?_cons_zero, List.getElem?_cons_succ, Int.reduceLT, ix_10, ix_1m, ix_20, ix_21, ix_2m, ix_3m, ix_40, ix_41, ix_42, ix_43, ix_4m, ix_50, ix_51, ix_52, ix_53, ix_54, ix_5m, ix_60, ix_61, ix_62, ix_63, ix_64, ix_65, ix_6m, ix_70, ix_71, ix_72, ix_73, ix_74, ix_75, ix_76, ix_7m, ix_80, ix_81, ix_82, ix_83, ix_84, ix_85, ix_86, ix_87, ix_8m, rf0, rf1, rf2, rf3, rf4, rf5, rf6, rf7, rf8, rf9, rf10, rf11, rf12, rf13, rf14, rf15, rf16, rf17, rf18, rf19, rf20, rf21, rf22, rf23, rf24, rf25, rf26, rf27, rf28, rf29, rf30, rf31, rf32, rf33, rf34, rf35, rf36, rf37, rf38, varH_strm, hz, t1, t2, t3, hnx, hnp, j1, j2, q, eqs, Int.reduceEq, lg, lh, lf2, lf3, z1, List.length_map, List.length_append, List.append_nil, Nat.add_zero, List.map_append, tr, item, atI_lst, cut_ini]
end
end K89
end

section
set_option maxRecDepth 100000
set_option Elab.async false
set_option linter.all false
/-! W13: the plain law of traces and leads. -/
namespace K89
open Pv
theorem back0 (u : Trc) : backM u 0 = u := by
  obtain ⟨us, ur⟩ := u
  cases us with
  | nil => simp [backM]
  | cons p us => simp [backM]
theorem join_e (u : Trc) : joinM u ([], 0) = u := by simp [joinM]
theorem e_join (u : Trc) : joinM ([], 0) u = u := by
  obtain ⟨us, ur⟩ := u
  cases us with
  | nil => simp [joinM]
  | cons p us => simp [joinM]
theorem join_assoc (a b c : Trc) : joinM (joinM a b) c = joinM a (joinM b c) := by
  obtain ⟨as, ar⟩ := a
  obtain ⟨bs, br⟩ := b
  obtain ⟨cs, cr⟩ := c
  cases bs <;> cases cs <;> simp [joinM, Int.add_assoc]
theorem join_back (w s : Trc) (z : Int) : joinM (backM w z) s = backM (joinM w s) z := by
  obtain ⟨ws, wr⟩ := w
  obtain ⟨ss, sr⟩ := s
  cases ws <;> cases ss <;> simp [joinM, backM] <;> omega
theorem eqi_sub (p q : Int × D) (z : Int) : eqi (p.1 - z, p.2) (q.1 - z, q.2) = eqi p q := by
  unfold eqi
  congr 1
  by_cases h : p.1 = q.1
  · simp [h]
  · have : ¬ p.1 - z = q.1 - z := by omega
    rw [beq_eq_false_iff_ne.mpr this, beq_eq_false_iff_ne.mpr h]
theorem lead_back (A B : Trc) (z : Int) : leadM (backM A z) (backM B z) = leadM A B := by
  obtain ⟨as, ar⟩ := A
  obtain ⟨bs, br⟩ := B
  cases as with
  | nil =>
    cases bs with
    | nil => simp [leadM, backM, cp]; omega
    | cons q bs => simp [leadM, backM, cp]; omega
  | cons p as =>
    cases bs with
    | nil => simp [leadM, backM, cp]; omega
    | cons q bs =>
      simp only [leadM, backM, cp, eqi_sub]
      by_cases h : eqi p q = true
      · simp only [h, if_true, List.drop_succ_cons]
      · simp only [h, if_false, List.drop_zero, Bool.false_eq_true]
theorem cp_app : ∀ (C1 C2 x y : List (Int × D)), C1.length = C2.length → cp C1 C2 = C1.length → cp (C1 ++ x) (C2 ++ y) = C1.length + cp x y
  | [], [], x, y, _, _ => by simp
  | [], _ :: _, _, _, h, _ => by simp at h
  | _ :: _, [], _, _, h, _ => by simp at h
  | p :: C1, q :: C2, x, y, h, h2 => by
    simp only [cp] at h2
    by_cases e : eqi p q = true
    · rw [if_pos e] at h2
      have := cp_app C1 C2 x y (by simpa using h) (by simp at h2; omega)
      simp only [List.cons_append, cp, if_pos e, this, List.length_cons]
      omega
    · rw [if_neg e] at h2
      simp at h2
theorem lead_app (C1 C2 x y : List (Int × D)) (r r' : Int) (h : C1.length = C2.length) (h2 : cp C1 C2 = C1.length) : leadM (C1 ++ x, r) (C2 ++ y, r') = leadM (x, r) (y, r') := by
  have e := cp_app C1 C2 x y h h2
  have e1 : (C1 ++ x).drop (C1.length + cp x y) = x.drop (cp x y) := by rw [List.drop_append, List.drop_eq_nil_of_le (by omega)]; simp
  have e2 : (C2 ++ y).drop (C1.length + cp x y) = y.drop (cp x y) := by rw [h, List.drop_append, List.drop_eq_nil_of_le (by omega)]; simp
  unfold leadM
  simp only [e, e1, e2]
theorem cp_take : ∀ us vs : List (Int × D), cp (us.take (cp us vs)) (vs.take (cp us vs)) = cp us vs
  | [], vs => by simp [cp]
  | _ :: _, [] => by simp [cp]
  | x :: xs, y :: ys => by
    by_cases e : eqi x y = true
    · simp only [cp, if_pos e, List.take_succ_cons, cp_take xs ys]
    · simp only [cp, if_neg e, List.take_zero]
theorem cp_drop : ∀ us vs : List (Int × D), cp (us.drop (cp us vs)) (vs.drop (cp us vs)) = 0
  | [], vs => by simp [cp]
  | x :: xs, [] => by simp [cp]
  | x :: xs, y :: ys => by
    by_cases e : eqi x y = true
    · simp only [cp, if_pos e, List.drop_succ_cons, cp_drop xs ys]
    · simp only [cp, if_neg e, List.drop_zero, Bool.false_eq_true, if_false]
/-- the common head away -/
theorem split (u v : Trc) : ∃ C1 C2 x y, u.1 = C1 ++ x ∧ v.1 = C2 ++ y ∧ C1.length = C2.length ∧ cp C1 C2 = C1.length ∧ cp x y = 0 := by
  obtain ⟨h1, h2⟩ := cp_le u.1 v.1
  have l1 : (u.1.take (cp u.1 v.1)).length = cp u.1 v.1 := by rw [List.length_take]; omega
  have l2 : (v.1.take (cp u.1 v.1)).length = cp u.1 v.1 := by rw [List.length_take]; omega
  exact ⟨u.1.take (cp u.1 v.1), v.1.take (cp u.1 v.1), u.1.drop (cp u.1 v.1), v.1.drop (cp u.1 v.1), (List.take_append_drop _ _).symm, (List.take_append_drop _ _).symm, by omega, by rw [cp_take, l1], cp_drop _ _⟩
def tl (r : Int) (s : Trc) : List (Int × D) := (joinM ([], r) s).1
def te (r : Int) (s : Trc) : Int := (joinM ([], r) s).2
theorem join_eq (u s : Trc) : joinM u s = (u.1 ++ tl u.2 s, te u.2 s) := by
  obtain ⟨ss, sr⟩ := s
  cases ss <;> simp [joinM, tl, te]
theorem join_app (C x : List (Int × D)) (r : Int) (s : Trc) : joinM (C ++ x, r) s = (C ++ (joinM (x, r) s).1, (joinM (x, r) s).2) := by
  rw [join_eq, join_eq (x, r)]
  simp
theorem lead_joins {u v : Trc} (s t : Trc) : ∃ x y, u.2 = u.2 ∧ leadM u v = leadM (x, u.2) (y, v.2) ∧ leadM (joinM u s) (joinM v t) = leadM (joinM (x, u.2) s) (joinM (y, v.2) t) ∧ cp x y = 0 := by
  obtain ⟨C1, C2, x, y, h1, h2, h3, h4, h5⟩ := split u v
  obtain ⟨us, ur⟩ := u
  obtain ⟨vs, vr⟩ := v
  simp only at h1 h2
  subst h1 h2
  refine ⟨x, y, rfl, lead_app _ _ _ _ _ _ h3 h4, ?_, h5⟩
  rw [join_app, join_app, lead_app _ _ _ _ _ _ h3 h4]
theorem lead_none {u v : Trc} (s t : Trc) (h : leadM u v = none) : leadM (joinM u s) (joinM v t) = none := by
  obtain ⟨x, y, _, h1, h2, h3⟩ := lead_joins (u := u) (v := v) s t
  rw [h1] at h
  rw [h2]
  cases x with
  | nil => cases y <;> simp [leadM, cp] at h
  | cons p x =>
    cases y with
    | nil => simp [leadM, cp] at h
    | cons q y =>
      have e : ¬ eqi p q = true := by
        intro e
        simp only [cp, if_pos e] at h3
        omega
      rw [join_eq, join_eq]
      simp [leadM, cp, e]
theorem lead_some {u v a b : Trc} (s t : Trc) (h : leadM u v = some (a, b)) : leadM (joinM a s) (joinM b t) = leadM (joinM u s) (joinM v t) := by
  obtain ⟨x, y, _, h1, h2, h3⟩ := lead_joins (u := u) (v := v) s t
  rw [h1] at h
  rw [h2]
  cases y with
  | nil =>
    have e : leadM (x, u.2) ([], v.2) = some (backM (x, u.2) v.2, ([], 0)) := by cases x <;> simp [leadM, cp]
    rw [e] at h
    simp only [Option.some.injEq, Prod.mk.injEq] at h
    obtain ⟨rfl, rfl⟩ := h
    rw [join_back, ← lead_back (joinM (x, u.2) s) (joinM ([], v.2) t) v.2, ← join_back, ← join_back ([], v.2)]
    simp [backM]
  | cons q y =>
    cases x with
    | nil =>
      have e : leadM ([], u.2) (q :: y, v.2) = some (([], 0), backM (q :: y, v.2) u.2) := by simp [leadM, cp]
      rw [e] at h
      simp only [Option.some.injEq, Prod.mk.injEq] at h
      obtain ⟨rfl, rfl⟩ := h
      rw [join_back, ← lead_back (joinM ([], u.2) s) (joinM (q :: y, v.2) t) u.2, ← join_back ([], u.2)]
      simp [backM]
    | cons p x =>
      have e : ¬ eqi p q = true := by
        intro e
        simp only [cp, if_pos e] at h3
        omega
      simp [leadM, cp, e] at h
theorem cp_self : ∀ us : List (Int × D), (∀ p ∈ us, eqv p.2 p.2 = true) → cp us us = us.length
  | [], _ => rfl
  | p :: us, h => by
    have e : eqi p p = true := by simp [eqi, h p]
    simp only [cp, if_pos e, List.length_cons, cp_self us fun q hq => h q (List.mem_cons_of_mem _ hq)]
theorem lead_self (u : Trc) (h : ∀ p ∈ u.1, eqv p.2 p.2 = true) : leadM u u = some (([], 0), ([], 0)) := by
  have e := cp_self u.1 h
  unfold leadM
  rw [e]
  simp [backM]
end K89
end

section
set_option maxRecDepth 100000
set_option Elab.async false
set_option linter.all false
/-! W14: the law. -/
namespace K89
open Pv
structure MkOk (d : D) : Prop where
  pl : Pl 4 d
  ft : fit d 63 = true
  eq : eqv d d = true
section
variable {N : Int} [hN : Nice N]
theorem pl_fr (z : Int) {n : Nat} : Pl (n+1) (fr N z) := by
  unfold fr
  refine .tup (fun x hx => ?_) (by simp)
  simp only [List.mem_cons, List.not_mem_nil, or_false] at hx
  rcases hx with rfl | rfl <;> exact .int _
theorem pl_sg (s : Sg) : Pl 3 (sg N s) := by
  unfold sg
  refine .tup (fun x hx => ?_) (by simp)
  simp only [List.mem_cons, List.not_mem_nil, or_false] at hx
  rcases hx with rfl | rfl
  · refine .tup (fun x hx => ?_) (by simp)
    simp only [List.mem_cons, List.not_mem_nil, or_false] at hx
    rcases hx with rfl | rfl <;> exact pl_fr _
  · refine .tup (fun x hx => ?_) (by simp)
    simp only [List.mem_cons, List.not_mem_nil, or_false] at hx
    rcases hx with rfl | rfl <;> exact pl_fr _
theorem eqv_fr (z : Int) : eqv (fr N z) (fr N z) = true := by simp [fr, eqv, eqvL]
theorem mk_ok (m : List Sg) (h : m.length ≤ 1000) : MkOk (mk N m) := by
  refine ⟨?_, ?_, ?_⟩
  · unfold mk
    refine .tup (fun x hx => ?_) (by rw [List.length_map]; omega)
    obtain ⟨s, _, rfl⟩ := List.mem_map.mp hx
    exact pl_sg s
  · unfold mk
    rw [fit]
    clear h
    induction m with
    | nil => rfl
    | cons s m ih => simp only [List.map_cons, fitL, ih, Bool.and_true]; simp [sg, fr, fit, fitL]
  · unfold mk
    rw [eqv]
    clear h
    induction m with
    | nil => rfl
    | cons s m ih => simp only [List.map_cons, eqvL, ih, Bool.and_true]; simp [sg, eqv, eqvL, eqv_fr]
/-- a trace of good marks -/
structure TOk (n : Nat) (u : Trc) : Prop where
  ln : u.1.length ≤ n
  ms : ∀ p ∈ u.1, MkOk p.2
theorem TOk.mono {n m : Nat} {u : Trc} (h : TOk n u) (hm : n ≤ m) : TOk m u := ⟨Nat.le_trans h.ln hm, h.ms⟩
theorem TOk.e : TOk 0 ([], 0) := ⟨Nat.le_refl _, nofun⟩
theorem TOk.join {n m : Nat} {u v : Trc} (h : TOk n u) (h2 : TOk m v) : TOk (n + m) (joinM u v) := by
  obtain ⟨vs, vr⟩ := v
  have l1 := h.ln
  have l2 := h2.ln
  have m2 := h2.ms
  simp only at l2 m2
  cases vs with
  | nil => exact ⟨by simp only [joinM]; omega, h.ms⟩
  | cons p r =>
    refine ⟨by simp only [joinM, List.length_append, List.length_cons] at l2 ⊢; omega, fun q hq => ?_⟩
    simp only [joinM] at hq
    rcases List.mem_append.mp hq with hq | hq
    · exact h.ms q hq
    · rcases List.mem_cons.mp hq with rfl | hq
      · exact m2 p List.mem_cons_self
      · exact m2 q (List.mem_cons_of_mem _ hq)
theorem TOk.back {n : Nat} {u : Trc} (h : TOk n u) (z : Int) : TOk n (backM u z) := by
  obtain ⟨us, ur⟩ := u
  have l1 := h.ln
  have m1 := h.ms
  simp only at l1 m1
  cases us with
  | nil => exact ⟨by simp [backM], by simp [backM]⟩
  | cons p r =>
    refine ⟨by simpa [backM] using l1, fun q hq => ?_⟩
    simp only [backM] at hq
    rcases List.mem_cons.mp hq with rfl | hq
    · exact m1 p List.mem_cons_self
    · exact m1 q (List.mem_cons_of_mem _ hq)
theorem TOk.drop {n : Nat} {u : Trc} (h : TOk n u) (c : Nat) (z : Int) : TOk n (u.1.drop c, z) := ⟨by have := h.ln; simp only [List.length_drop]; omega, fun p hp => h.ms p (List.mem_of_mem_drop hp)⟩
theorem TOk.lead {n : Nat} {u v a b : Trc} (h : TOk n u) (h2 : TOk n v) (e : leadM u v = some (a, b)) : TOk n a ∧ TOk n b := by
  have d1 := h.drop (cp u.1 v.1) u.2
  have d2 := h2.drop (cp u.1 v.1) v.2
  unfold leadM at e
  generalize u.1.drop (cp u.1 v.1) = A at *
  generalize v.1.drop (cp u.1 v.1) = B at *
  cases B with
  | nil =>
    simp only [Option.some.injEq, Prod.mk.injEq] at e
    obtain ⟨rfl, rfl⟩ := e
    exact ⟨d1.back _, TOk.e.mono (by omega)⟩
  | cons q s =>
    cases A with
    | nil =>
      simp only [Option.some.injEq, Prod.mk.injEq] at e
      obtain ⟨rfl, rfl⟩ := e
      exact ⟨TOk.e.mono (by omega), d2.back _⟩
    | cons p r => simp at e
theorem pl_tr {n : Nat} {u : Trc} (h : TOk n u) (hn : n ≤ 16777216) : Pl 7 (tr N u) := by
  unfold tr
  refine .tup (fun x hx => ?_) (by simp)
  simp only [List.mem_cons, List.not_mem_nil, or_false] at hx
  rcases hx with rfl | rfl
  · refine .tup (fun x hx => ?_) (by rw [List.length_map]; have := h.ln; omega)
    obtain ⟨p, hp, rfl⟩ := List.mem_map.mp hx
    unfold item
    refine .tup (fun x hx => ?_) (by simp)
    simp only [List.mem_cons, List.not_mem_nil, or_false] at hx
    rcases hx with rfl | rfl
    · exact pl_fr _
    · exact (h.ms p hp).pl
  · exact pl_fr _
theorem pl_ld {n : Nat} {u v : Trc} (h : TOk n u) (h2 : TOk n v) (hn : n ≤ 16777216) : Pl 8 (ldD N (leadM u v)) := by
  cases e : leadM u v with
  | none => exact .non
  | some ab =>
    obtain ⟨a, b⟩ := ab
    obtain ⟨h3, h4⟩ := h.lead h2 e
    refine .tup (fun x hx => ?_) (by simp)
    simp only [List.mem_cons, List.not_mem_nil, or_false] at hx
    rcases hx with rfl | rfl
    · exact pl_tr h3 hn
    · exact pl_tr h4 hn
theorem w_sm (k : Nat) {d : D} (h : Pl 8 d) : M.call prog (k+20) 16 [.val d, .val d] = some (.ok (.val (.bl true)) []) := w_same h (k+11)
theorem w_joins (k : Nat) {a b c : Trc} (ha : TOk 200 a) (hb : TOk 200 b) (hc : TOk 200 c) : M.call prog (k+21) 36 [.val (tr N a), .val (tr N b), .val (tr N c)] = some (.ok (.val (.bl true)) []) := by
  have p1 : ∀ {n : Nat} {u : Trc}, TOk n u → n ≤ 1000 → M.call prog (k+20) 16 [.val (tr N u), .val (tr N u)] = some (.ok (.val (.bl true)) []) := fun h hn => w_sm k ((pl_tr h (by omega)).mono (by omega))
  have j1 : ∀ {n m : Nat} {u v : Trc}, TOk n u → TOk m v → n + m ≤ 1000 → M.call prog (k+20) 9 [.val (tr N u), .val (tr N v)] = some (.ok (.val (tr N (joinM u v))) []) := fun h h2 hn => w_join (k+17) _ _ (by have := h.ln; have := h2.ln; omega)
  have j2 : ∀ {n m : Nat} {u v : Trc}, TOk n u → TOk m v → n + m ≤ 1000 → M.call prog (k+20) 30 [.val (tr N u), .val (tr N v)] = some (.ok (.val (tr N (joinM u v))) []) := fun h h2 hn => w_ljoin (k+17) _ _ (by have := h.ln; have := h2.ln; omega)
  have hab := ha.join hb
  have hbc := hb.join hc
  have q1 := j1 ha hb (by omega)
  have q2 := j2 ha hb (by omega)
  have q3 := j1 hb hc (by omega)
  have q4 := j2 hb hc (by omega)
  have q5 := j1 hab hc (by omega)
  have q6 := j2 hab hc (by omega)
  have q7 := j1 ha hbc (by omega)
  have q8 := j1 ha TOk.e (by omega)
  have q9 := j1 TOk.e hb (by omega)
  rw [join_e] at q8
  rw [e_join] at q9
  rw [← join_assoc] at q7
  rw [tr_e] at q8 q9
  have s1 := p1 hab (by omega)
  have s2 := p1 hbc (by omega)
  have s3 := p1 (hab.join hc) (by omega)
  have s4 := p1 ha (by omega)
  have s5 := p1 hb (by omega)
  simp -dsimp only [g36, f_law_joins_hold, M_run, varH_val, varH_ol, varH_od, varH_oi, M_cx_rf, M_cx_sub, M_cx_call, seqG_next, seqG_ret, seqG_brk, seqG_cnt, nox_ok, wipe, forA_some, forK_next, forK_cnt, forK_brk, forK_ret, forK_exc, whlK_next, whlK_cnt, whlK_brk, whlK_ret, whlK_exc, whlB_t, whlB_f, lcA_some, lcB_t, lcB_f, M_ev_var, M_ev_pth, M_ev_cst, M_ev_glb, M_ev_bin, M_ev_neg, M_ev_cmp, M_ev_chn, M_ev_and, M_ev_or, M_ev_not, M_ev_iff, M_ev_tup, M_ev_lst, M_ev_ix, M_ev_slc, M_ev_rev, M_ev_call, M_ev_mth, M_ev_new, M_ev_att, M_ev_bi, M_ev_isi, M_ev_isx, M_ev_dget, M_ev_dct0, M_ev_pop, M_ev_popi, M_ev_lc, M_ev_dc, M_ev_stk, M_tst_e, M_tst_and, M_tst_or, M_tst_not, M_tstO_no, M_tstO_yes, M_evs_nil, M_evs_cons, M_evD_nil, M_evD_cons, M_evO_no, M_evO_yes, M_evI_e, M_evI_r1, M_evI_r2, M_ex_asg, M_ex_par, M_ex_mov, M_ex_aug, M_ex_sIx, M_ex_sAt, M_ex_augIx, M_ex_augAt, M_ex_exp, M_ex_app, M_ex_ext, M_ex_ins, M_ex_iff, M_ex_whl, M_ex_for_, M_ex_forO, M_ex_ret, M_ex_retM, M_ex_retN, M_ex_brk, M_ex_cnt, M_ex_pass, M_ex_rais, M_ex_stk, M_ex_tr, M_exs_nil, M_exs_cons, M_exh_nil, M_exh_cons, List.length_cons, List.length_nil, Nat.zero_add, Nat.reduceAdd, Nat.reduceSub, Nat.reduceLeDiff, Nat.reduceLT, if_pos, List.map_cons, List.map_nil, rb_ok, rb_none, ob_some, ob_none, sGet, List.cons_append, List.nil_append, List.replicate, cmpH, peek, look, peekV, vals_map, fzL_map, vals, cmpD, fits, fit, fitL, eqv, lf, truV, blOf, Bool.false_eq_true, if_false, if_true, List.set, asgH, esc, put, setP, getP, fz, fzL, asgH.lf', asgD, asgNs, biH, peeks, biD, lenV, newH, binH, binD, ixH, subH, toSV, toSVs, setSVs, okS, setH, setV, isOl, appH, fin_next, fin_ret, outsOf, callH, handArgs, handed, noTwice, backArgs, retH_val, retH_ol, retH_od, retH_oi, List.headD_cons, List.tail_cons, List.headD_nil, List.tail_nil, seqOf, decide_true, decide_false, Bool.and_self, Bool.true_and, Bool.and_true, Bool.false_and, Bool.and_false, Bool.not_true, Bool.not_false, Bool.or_true, Bool.or_false, Bool.true_or, Bool.false_or, List.isEmpty_cons, List.isEmpty_nil, reduceCtorEq, List.contains_nil, List.contains_cons, Nat.reduceBEq, sizeOk, atI_c0, atI_c1, atI_c2, atI_c3, atI_c4, slcD, cut_1, intOf, ix_30, ix_31, ix_32, isTy, List.any_cons, List.any_nil, isNon, isNonV, List.length_map, augD, List.getElem?_cons_zero, List.getElem?_cons_succ, Int.reduceLT, ix_10, ix_1m, ix_20, ix_21, ix_2m, ix_3m, ix_40, ix_41, ix_42, ix_43, ix_4m, ix_50, ix_51, ix_52, ix_53, ix_54, ix_5m, ix_60, ix_61, ix_62, ix_63, ix_64, ix_65, ix_6m, ix_70, ix_71, ix_72, ix_73, ix_74, ix_75, ix_76, ix_7m, ix_80, ix_81, ix_82, ix_83, ix_84, ix_85, ix_86, ix_87, ix_8m, rf0, rf1, rf2, rf3, rf4, rf5, rf6, rf7, rf8, rf9, rf10, rf11, rf12, rf13, rf14, rf15, rf16, rf17, rf18, rf19, rf20, rf21, rf22, rf23, rf24, rf25, rf26, rf27, rf28, rf29, rf30, rf31, rf32, rf33, rf34, rf35, rf36, rf37, rf38, q1, q2, q3, q4, q5, q6, q7, q8, q9, s1, s2, s3, s4, s5]
theorem isNon_ld (o : Option (Trc × Trc)) : isNonV (.val (ldD N o)) = o.isNone := by
  cases o with
  | none => rfl
  | some ab => rfl
theorem w_leads (k : Nat) {u v s t : Trc} (hu : TOk 200 u) (hv : TOk 200 v) (hs : TOk 200 s) (ht : TOk 200 t) : M.call prog (k+21) 37 [.val (tr N u), .val (tr N v), .val (tr N s), .val (tr N t)] = some (.ok (.val (.bl true)) []) := by
  have j1 : ∀ {n m : Nat} {u v : Trc}, TOk n u → TOk m v → n + m ≤ 1000 → M.call prog (k+20) 9 [.val (tr N u), .val (tr N v)] = some (.ok (.val (tr N (joinM u v))) []) := fun h h2 hn => w_join (k+17) _ _ (by have := h.ln; have := h2.ln; omega)
  have j2 : ∀ {n m : Nat} {u v : Trc}, TOk n u → TOk m v → n + m ≤ 1000 → M.call prog (k+20) 30 [.val (tr N u), .val (tr N v)] = some (.ok (.val (tr N (joinM u v))) []) := fun h h2 hn => w_ljoin (k+17) _ _ (by have := h.ln; have := h2.ln; omega)
  have l1 : ∀ {n : Nat} {u v : Trc}, TOk n u → TOk n v → n ≤ 1000 → M.call prog (k+20) 12 [.val (tr N u), .val (tr N v)] = some (.ok (.val (ldD N (leadM u v))) []) := fun h h2 hn => w_lead (k+16) _ _ (fun p hp => (h.ms p hp).ft) (fun p hp => (h2.ms p hp).ft) (by have := h.ln; omega) (by have := h2.ln; omega)
  have l2 : ∀ {n : Nat} {u v : Trc}, TOk n u → TOk n v → n ≤ 1000 → M.call prog (k+20) 32 [.val (tr N u), .val (tr N v)] = some (.ok (.val (ldD N (leadM u v))) []) := fun h h2 hn => w_llead (k+16) _ _ (fun p hp => (h.ms p hp).ft) (fun p hp => (h2.ms p hp).ft) (by have := h.ln; omega) (by have := h2.ln; omega)
  have p1 : ∀ {n : Nat} {u v : Trc}, TOk n u → TOk n v → n ≤ 1000 → M.call prog (k+20) 16 [.val (ldD N (leadM u v)), .val (ldD N (leadM u v))] = some (.ok (.val (.bl true)) []) := fun h h2 hn => w_sm k (pl_ld h h2 (by omega))
  have hus := hu.join hs
  have hvt := hv.join ht
  have q1 := j1 hu hs (by omega)
  have q2 := j2 hu hs (by omega)
  have q3 := j1 hv ht (by omega)
  have q4 := j2 hv ht (by omega)
  have a1 := l1 hu hv (by omega)
  have a2 := l2 hu hv (by omega)
  have a3 := l1 hus hvt (by omega)
  have a4 := l2 hus hvt (by omega)
  have a5 := l1 hv hu (by omega)
  have a6 := l2 hv hu (by omega)
  have a7 := l1 hu hu (by omega)
  have es := lead_self u fun p hp => (hu.ms p hp).eq
  have p3 := p1 hus hvt (by omega)
  have p4 := p1 hv hu (by omega)
  have p5 := p1 hu hu (by omega)
  have p6 := p1 hu hv (by omega)
  rw [es] at a7 p5
  unfold ldD at a7 p5
  simp only at a7 p5
  rw [tr_e] at a7 p5
  cases e : leadM u v with
  | none =>
    have e2 := lead_none s t e
    rw [e] at a1 a2 p6
    rw [e2] at a3 a4 p3
    unfold ldD at a1 a2 a3 a4 p3 p6
    simp only at a1 a2 a3 a4 p3 p6
    simp -dsimp only [g37, f_law_leads_hold, M_run, varH_val, varH_ol, varH_od, varH_oi, M_cx_rf, M_cx_sub, M_cx_call, seqG_next, seqG_ret, seqG_brk, seqG_cnt, nox_ok, wipe, forA_some, forK_next, forK_cnt, forK_brk, forK_ret, forK_exc, whlK_next, whlK_cnt, whlK_brk, whlK_ret, whlK_exc, whlB_t, whlB_f, lcA_some, lcB_t, lcB_f, M_ev_var, M_ev_pth, M_ev_cst, M_ev_glb, M_ev_bin, M_ev_neg, M_ev_cmp, M_ev_chn, M_ev_and, M_ev_or, M_ev_not, M_ev_iff, M_ev_tup, M_ev_lst, M_ev_ix, M_ev_slc, M_ev_rev, M_ev_call, M_ev_mth, M_ev_new, M_ev_att, M_ev_bi, M_ev_isi, M_ev_isx, M_ev_dget, M_ev_dct0, M_ev_pop, M_ev_popi, M_ev_lc, M_ev_dc, M_ev_stk, M_tst_e, M_tst_and, M_tst_or, M_tst_not, M_tstO_no, M_tstO_yes, M_evs_nil, M_evs_cons, M_evD_nil, M_evD_cons, M_evO_no, M_evO_yes, M_evI_e, M_evI_r1, M_evI_r2, M_ex_asg, M_ex_par, M_ex_mov, M_ex_aug, M_ex_sIx, M_ex_sAt, M_ex_augIx, M_ex_augAt, M_ex_exp, M_ex_app, M_ex_ext, M_ex_ins, M_ex_iff, M_ex_whl, M_ex_for_, M_ex_forO, M_ex_ret, M_ex_retM, M_ex_retN, M_ex_brk, M_ex_cnt, M_ex_pass, M_ex_rais, M_ex_stk, M_ex_tr, M_exs_nil, M_exs_cons, M_exh_nil, M_exh_cons, List.length_cons, List.length_nil, Nat.zero_add, Nat.reduceAdd, Nat.reduceSub, Nat.reduceLeDiff, Nat.reduceLT, if_pos, List.map_cons, List.map_nil, rb_ok, rb_none, ob_some, ob_none, sGet, List.cons_append, List.nil_append, List.replicate, cmpH, peek, look, peekV, vals_map, fzL_map, vals, cmpD, fits, fit, fitL, eqv, lf, truV, blOf, Bool.false_eq_true, if_false, if_true, List.set, asgH, esc, put, setP, getP, fz, fzL, asgH.lf', asgD, asgNs, biH, peeks, biD, lenV, newH, binH, binD, ixH, subH, toSV, toSVs, setSVs, okS, setH, setV, isOl, appH, fin_next, fin_ret, outsOf, callH, handArgs, handed, noTwice, backArgs, retH_val, retH_ol, retH_od, retH_oi, List.headD_cons, List.tail_cons, List.headD_nil, List.tail_nil, seqOf, decide_true, decide_false, Bool.and_self, Bool.true_and, Bool.and_true, Bool.false_and, Bool.and_false, Bool.not_true, Bool.not_false, Bool.or_true, Bool.or_false, Bool.true_or, Bool.false_or, List.isEmpty_cons, List.isEmpty_nil, reduceCtorEq, List.contains_nil, List.contains_cons, Nat.reduceBEq, sizeOk, atI_c0, atI_c1, atI_c2, atI_c3, atI_c4, slcD, cut_1, intOf, ix_30, ix_31, ix_32, isTy, List.any_cons, List.any_nil, isNon, isNonV, List.length_map, augD, List.getElem?_cons_zero, List.getElem?_cons_succ, Int.reduceLT, ix_10, ix_1m, ix_20, ix_21, ix_2m, ix_3m, ix_40, ix_41, ix_42, ix_43, ix_4m, ix_50, ix_51, ix_52, ix_53, ix_54, ix_5m, ix_60, ix_61, ix_62, ix_63, ix_64, ix_65, ix_6m, ix_70, ix_71, ix_72, ix_73, ix_74, ix_75, ix_76, ix_7m, ix_80, ix_81, ix_82, ix_83, ix_84, ix_85, ix_86, ix_87, ix_8m, rf0, rf1, rf2, rf3, rf4, rf5, rf6, rf7, rf8, rf9, rf10, rf11, rf12, rf13, rf14, rf15, rf16, rf17, rf18, rf19, rf20, rf21, rf22, rf23, rf24, rf25, rf26, rf27, rf28, rf29, rf30, rf31, rf32, rf33, rf34, rf35, rf36, rf37, rf38, q1, q2, q3, q4, a1, a2, a3, a4, a5, a6, a7, p3, p4, p5, p6]
  | some ab =>
    obtain ⟨a, b⟩ := ab
    obtain ⟨h3, h4⟩ := hu.lead hv e
    have q5 := j1 h3 hs (by omega)
    have q6 := j1 h4 ht (by omega)
    have a8 := l1 (h3.join hs) (h4.join ht) (by omega)
    rw [lead_some s t e] at a8
    rw [e] at a1 a2 p6
    unfold ldD at a1 a2 p6
    simp only at a1 a2 p6
    simp -dsimp only [g37, f_law_leads_hold, M_run, varH_val, varH_ol, varH_od, varH_oi, M_cx_rf, M_cx_sub, M_cx_call, seqG_next, seqG_ret, seqG_brk, seqG_cnt, nox_ok, wipe, forA_some, forK_next, forK_cnt, forK_brk, forK_ret, forK_exc, whlK_next, whlK_cnt, whlK_brk, whlK_ret, whlK_exc, whlB_t, whlB_f, lcA_some, lcB_t, lcB_f, M_ev_var, M_ev_pth, M_ev_cst, M_ev_glb, M_ev_bin, M_ev_neg, M_ev_cmp, M_ev_chn, M_ev_and, M_ev_or, M_ev_not, M_ev_iff, M_ev_tup, M_ev_lst, M_ev_ix, M_ev_slc, M_ev_rev, M_ev_call, M_ev_mth, M_ev_new, M_ev_att, M_ev_bi, M_ev_isi, M_ev_isx, M_ev_dget, M_ev_dct0, M_ev_pop, M_ev_popi, M_ev_lc, M_ev_dc, M_ev_stk, M_tst_e, M_tst_and, M_tst_or, M_tst_not, M_tstO_no, M_tstO_yes, M_evs_nil, M_evs_cons, M_evD_nil, M_evD_cons, M_evO_no, M_evO_yes, M_evI_e, M_evI_r1, M_evI_r2, M_ex_asg, M_ex_par, M_ex_mov, M_ex_aug, M_ex_sIx, M_ex_sAt, M_ex_augIx, M_ex_augAt, M_ex_exp, M_ex_app, M_ex_ext, M_ex_ins, M_ex_iff, M_ex_whl, M_ex_for_, M_ex_forO, M_ex_ret, M_ex_retM, M_ex_retN, M_ex_brk, M_ex_cnt, M_ex_pass, M_ex_rais, M_ex_stk, M_ex_tr, M_exs_nil, M_exs_cons, M_exh_nil, M_exh_cons, List.length_cons, List.length_nil, Nat.zero_add, Nat.reduceAdd, Nat.reduceSub, Nat.reduceLeDiff, Nat.reduceLT, if_pos, List.map_cons, List.map_nil, rb_ok, rb_none, ob_some, ob_none, sGet, List.cons_append, List.nil_append, List.replicate, cmpH, peek, look, peekV, vals_map, fzL_map, vals, cmpD, fits, fit, fitL, eqv, lf, truV, blOf, Bool.false_eq_true, if_false, if_true, List.set, asgH, esc, put, setP, getP, fz, fzL, asgH.lf', asgD, asgNs, biH, peeks, biD, lenV, newH, binH, binD, ixH, subH, toSV, toSVs, setSVs, okS, setH, setV, isOl, appH, fin_next, fin_ret, outsOf, callH, handArgs, handed, noTwice, backArgs, retH_val, retH_ol, retH_od, retH_oi, List.headD_cons, List.tail_cons, List.headD_nil, List.tail_nil, seqOf, decide_true, decide_false, Bool.and_self, Bool.true_and, Bool.and_true, Bool.false_and, Bool.and_false, Bool.not_true, Bool.not_false, Bool.or_true, Bool.or_false, Bool.true_or, Bool.false_or, List.isEmpty_cons, List.isEmpty_nil, reduceCtorEq, List.contains_nil, List.contains_cons, Nat.reduceBEq, sizeOk, atI_c0, atI_c1, atI_c2, atI_c3, atI_c4, slcD, cut_1, intOf, ix_30, ix_31, ix_32, isTy, List.any_cons, List.any_nil, isNon, isNonV, List.length_map, augD, List.getElem?_cons_zero, List.getElem?_cons_succ, Int.reduceLT, ix_10, ix_1m, ix_20, ix_21, ix_2m, ix_3m, ix_40, ix_41, ix_42, ix_43, ix_4m, ix_50, ix_51, ix_52, ix_53, ix_54, ix_5m, ix_60, ix_61, ix_62, ix_63, ix_64, ix_65, ix_6m, ix_70, ix_71, ix_72, ix_73, ix_74, ix_75, ix_76, ix_7m, ix_80, ix_81, ix_82, ix_83, ix_84, ix_85, ix_86, ix_87, ix_8m, rf0, rf1, rf2, rf3, rf4, rf5, rf6, rf7, rf8, rf9, rf10, rf11, rf12, rf13, rf14, rf15, rf16, rf17, rf18, rf19, rf20, rf21, rf22, rf23, rf24, rf25, rf26, rf27, rf28, rf29, rf30, rf31, rf32, rf33, rf34, rf35, rf36, rf37, rf38, q1, q2, q3, q4, q5, q6, a1, a2, a3, a4, a5, a6, a7, a8, p3, p4, p5, p6]
end
end K89
end

section
set_option maxRecDepth 100000
set_option Elab.async false
set_option linter.all false
/-! W15: glyphs hold; the law. -/
namespace K89
open Pv
section
variable {N : Int} [hN : Nice N]
theorem mv_bd (u sh d : Int) (es : List Ed) : mvM d (bdM u sh es) = bdM u (sh + d) es := by
  simp [mvM, bdM, mvS, sgM, Int.add_assoc]
theorem bd_len (u sh : Int) (es : List Ed) : (bdM u sh es).length = es.length := by simp [bdM]
theorem w_lf (h13 : (1344 : Int) ∣ N) (k : Nat) {p u : Int} (hp : p = 1 ∨ p = 2 ∨ p = 3 ∨ p = 7 ∨ p = 64) (hu : u * p = N) (t : Int) : M.call prog (k+1) 17 [.val (.int t), .val (.int p)] = some (.ok (.val (fr N (t * u))) []) :=
  w_lfraction k t p (t * u) (by omega) (by omega) (by rw [← hu, Int.mul_assoc])
theorem w_gh (h13 : (1344 : Int) ∣ N) (k : Nat) (s : Sm) : ∃ s', M.call prog (k+21) 35 [strm s] = some (.ok (.val (.bl true)) [strm s']) := by
  obtain ⟨es, p, s1, h1, hp, hm⟩ := w_mark (k+16) s
  obtain ⟨u, hu0, hu⟩ := part_ok h13 hp
  obtain ⟨sh, hsh⟩ := w_small (N := N) h13 (k+18) s1
  have hn := w_next (k+19)
  have hl := h1.ln
  obtain ⟨m, hm1, hm2, hm3⟩ := w_lleast (k+19) es h1.ne (by omega)
  have hf := w_lf h13 (k+19) hp hu m
  have hpl := w_lplus (k+18) (Fc.fr N (m * u)) (Fc.fr N sh)
  have hmi := w_lminus (k+18) (Fc.fr N sh) (Fc.fr N (m * u + sh))
  have hb := w_border (N := N) (k+17) p u (sh - (m * u + sh)) (by omega) hu hu0 es (by omega)
  have hb2 := w_border (N := N) (k+17) p u sh (by omega) hu hu0 es (by omega)
  -- the width
  have pick : ∃ w j, ixN 3 (nx (ns (smS s1) 6401) 3) = some j ∧ ([.val (.int (nx (smS s1) 6401)), .val (.int 0), .val (.int 64)] : List SV)[j]? = some (.val (.int w)) := by
    have b := nx_bd (ns (smS s1) 6401) (size := 3) (by decide)
    generalize nx (ns (smS s1) 6401) 3 = x at *
    have : x = 0 ∨ x = 1 ∨ x = 2 := by omega
    rcases this with rfl | rfl | rfl
    · exact ⟨_, 0, rfl, rfl⟩
    · exact ⟨_, 1, rfl, rfl⟩
    · exact ⟨_, 2, rfl, rfl⟩
  obtain ⟨w, j, j1, j2⟩ := pick
  have hmi2 := w_lminus (k+18) (fc_whole (N := N) w) (Fc.fr N (m * u + sh))
  -- the glyph
  cases hes : bdM u sh es with
  | nil => exact absurd hes (by unfold bdM; intro z; exact h1.ne (List.map_eq_nil_iff.mp z))
  | cons g gs =>
    have hlen : (g :: gs).length ≤ 100 := by rw [← hes, bd_len]; omega
    obtain ⟨l, g1, g2, hg⟩ := w_glyph (N := N) (k+16) g gs w (by simp at hlen; omega)
    have hl : l = m * u + sh := by
      rw [← hes] at g1 g2
      unfold bdM at g1 g2
      obtain ⟨t, ht, rfl⟩ := g1
      obtain ⟨e, he, rfl⟩ := List.mem_map.mp ht
      obtain ⟨f, hf1, hf2⟩ := hm2
      have k1 : m ≤ e.a := (hm3 e he).1
      have k2 : ∃ f' ∈ es, f'.a = m := by
        rcases hf2 with hf2 | hf2
        · exact ⟨f, hf1, hf2⟩
        · obtain ⟨f', q1, q2⟩ := h1.cl f hf1
          exact ⟨f', q1, q2.trans hf2⟩
      obtain ⟨f', q1, rfl⟩ := k2
      have k3 := g2 _ (List.mem_map.mpr ⟨f', q1, rfl⟩)
      simp only [sgM] at k3 ⊢
      have k4 : e.a ≤ f'.a := by
        have : e.a * u ≤ f'.a * u := by omega
        exact Int.le_of_mul_le_mul_right this hu0
      rw [show e.a = f'.a by omega]
    subst hl
    rw [← hes, mv_bd] at hg
    have e2 : sh + (0 - (m * u + sh)) = sh - (m * u + sh) := by omega
    rw [e2] at hg
    have hg0 := w_glyph0 (k+18) w
    have s1' := w_sm k (d := .tup [.tup [.tup [fr N (m * u + sh), mk N (bdM u (sh - (m * u + sh)) es)]], fr N (w * N - (m * u + sh))]) (by
      refine .tup (fun x hx => ?_) (by simp)
      simp only [List.mem_cons, List.not_mem_nil, or_false] at hx
      rcases hx with rfl | rfl
      · refine .tup (fun x hx => ?_) (by simp)
        simp only [List.mem_cons, List.not_mem_nil, or_false] at hx
        subst hx
        refine .tup (fun x hx => ?_) (by simp)
        simp only [List.mem_cons, List.not_mem_nil, or_false] at hx
        rcases hx with rfl | rfl
        · exact pl_fr _
        · exact (mk_ok _ (by rw [bd_len]; omega)).pl.mono (by omega)
      · exact pl_fr _)
    have s2' := w_sm k (d := .tup [.tup [], .tup [.int w, .int 1]]) (by
      refine .tup (fun x hx => ?_) (by simp)
      simp only [List.mem_cons, List.not_mem_nil, or_false] at hx
      rcases hx with rfl | rfl
      · exact .tup nofun (by simp)
      · refine .tup (fun x hx => ?_) (by simp)
        simp only [List.mem_cons, List.not_mem_nil, or_false] at hx
        rcases hx with rfl | rfl <;> exact .int _)
    refine ⟨ns (ns (smS s1) 6401) 3, ?_⟩
    simp -dsimp only [g35, f_law_glyph_holds, M_run, varH_val, varH_ol, varH_od, varH_oi, M_cx_rf, M_cx_sub, M_cx_call, seqG_next, seqG_ret, seqG_brk, seqG_cnt, nox_ok, wipe, forA_some, forK_next, forK_cnt, forK_brk, forK_ret, forK_exc, whlK_next, whlK_cnt, whlK_brk, whlK_ret, whlK_exc, whlB_t, whlB_f, lcA_some, lcB_t, lcB_f, M_ev_var, M_ev_pth, M_ev_cst, M_ev_glb, M_ev_bin, M_ev_neg, M_ev_cmp, M_ev_chn, M_ev_and, M_ev_or, M_ev_not, M_ev_iff, M_ev_tup, M_ev_lst, M_ev_ix, M_ev_slc, M_ev_rev, M_ev_call, M_ev_mth, M_ev_new, M_ev_att, M_ev_bi, M_ev_isi, M_ev_isx, M_ev_dget, M_ev_dct0, M_ev_pop, M_ev_popi, M_ev_lc, M_ev_dc, M_ev_stk, M_tst_e, M_tst_and, M_tst_or, M_tst_not, M_tstO_no, M_tstO_yes, M_evs_nil, M_evs_cons, M_evD_nil, M_evD_cons, M_evO_no, M_evO_yes, M_evI_e, M_evI_r1, M_evI_r2, M_ex_asg, M_ex_par, M_ex_mov, M_ex_aug, M_ex_sIx, M_ex_sAt, M_ex_augIx, M_ex_augAt, M_ex_exp, M_ex_app, M_ex_ext, M_ex_ins, M_ex_iff, M_ex_whl, M_ex_for_, M_ex_forO, M_ex_ret, M_ex_retM, M_ex_retN, M_ex_brk, M_ex_cnt, M_ex_pass, M_ex_rais, M_ex_stk, M_ex_tr, M_exs_nil, M_exs_cons, M_exh_nil, M_exh_cons, List.length_cons, List.length_nil, Nat.zero_add, Nat.reduceAdd, Nat.reduceSub, Nat.reduceLeDiff, Nat.reduceLT, if_pos, List.map_cons, List.map_nil, rb_ok, rb_none, ob_some, ob_none, sGet, List.cons_append, List.nil_append, List.replicate, cmpH, peek, look, peekV, vals_map, fzL_map, vals, cmpD, fits, fit, fitL, eqv, lf, truV, blOf, Bool.false_eq_true, if_false, if_true, List.set, asgH, esc, put, setP, getP, fz, fzL, asgH.lf', asgD, asgNs, biH, peeks, biD, lenV, newH, binH, binD, ixH, subH, toSV, toSVs, setSVs, okS, setH, setV, isOl, appH, fin_next, fin_ret, outsOf, callH, handArgs, handed, noTwice, backArgs, retH_val, retH_ol, retH_od, retH_oi, List.headD_cons, List.tail_cons, List.headD_nil, List.tail_nil, seqOf, decide_true, decide_false, Bool.and_self, Bool.true_and, Bool.and_true, Bool.false_and, Bool.and_false, Bool.not_true, Bool.not_false, Bool.or_true, Bool.or_false, Bool.true_or, Bool.false_or, List.isEmpty_cons, List.isEmpty_nil, reduceCtorEq, List.contains_nil, List.contains_cons, Nat.reduceBEq, sizeOk, atI_c0, atI_c1, atI_c2, atI_c3, atI_c4, slcD, cut_1, intOf, ix_30, ix_31, ix_32, isTy, List.any_cons, List.any_nil, isNon, isNonV, List.length_map, augD, List.getElem?_cons_zero, List.getElem?_cons_succ, Int.reduceLT, ix_10, ix_1m, ix_20, ix_21, ix_2m, ix_3m, ix_40, ix_41, ix_42, ix_43, ix_4m, ix_50, ix_51, ix_52, ix_53, ix_54, ix_5m, ix_60, ix_61, ix_62, ix_63, ix_64, ix_65, ix_6m, ix_70, ix_71, ix_72, ix_73, ix_74, ix_75, ix_76, ix_7m, ix_80, ix_81, ix_82, ix_83, ix_84, ix_85, ix_86, ix_87, ix_8m, rf0, rf1, rf2, rf3, rf4, rf5, rf6, rf7, rf8, rf9, rf10, rf11, rf12, rf13, rf14, rf15, rf16, rf17, rf18, rf19, rf20, rf21, rf22, rf23, rf24, rf25, rf26, rf27, rf28, rf29, rf30, rf31, rf32, rf33, rf34, rf35, rf36, rf37, rf38, varH_strm, hm, hsh, hn, j1, j2, hm1, hf, hpl, hmi, hb, hb2, hmi2, hg, hg0, s1', s2']
abbrev bPool : Ss := (.cons (.asg (.tp [4, 5]) (.call 27 (.cons (.var 1) .nil))) (.cons (.app (.var 2) (.call 25 (.cons (.var 4) (.cons (.var 5) (.cons (.call 17 (.cons (.neg (.call 26 (.cons (.var 4) .nil))) (.cons (.var 5) .nil))) .nil))))) .nil))
theorem pool_loop (h13 : (1344 : Int) ∣ N) (k : Nat) (x a6 a7 a8 a9 a10 a11 : Option SV) : ∀ (n i : Nat) (s : Sm) (acc : List D) (a b c : Option SV), acc.length + n ≤ 100 → (∀ d ∈ acc, MkOk d) → ∃ (s' : Sm) (pool : List D) (a' b' c' : Option SV), pool.length = acc.length + n ∧ (∀ d ∈ pool, MkOk d) ∧
    M.for_ (M.cx prog (k+20)) (.nm 3) bPool ((List.range' i n).map fun (k : Nat) => D.int (k : Int)) [x, some (strm s), some (.ol (acc.map SV.val)), a, b, c, a6, a7, a8, a9, a10, a11] =
      some (.ok .next [x, some (strm s'), some (.ol (pool.map SV.val)), a', b', c', a6, a7, a8, a9, a10, a11]) := by
  intro n
  induction n with
  | zero => exact fun i s acc a b c _ h => ⟨s, acc, a, b, c, rfl, h, by rw [List.range'_zero, List.map_nil, M_for_nil]⟩
  | succ n ih =>
    intro i s acc a b c ha hacc
    obtain ⟨es, p, s1, h1, hp, hm⟩ := w_mark (k+16) s
    obtain ⟨u, hu0, hu⟩ := part_ok h13 hp
    have hl := h1.ln
    obtain ⟨m, hm1, hm2, hm3⟩ := w_lleast (k+19) es h1.ne (by omega)
    have hf := w_lf h13 (k+19) hp hu (-m)
    have hb := w_border (N := N) (k+17) p u (-m * u) (by omega) hu hu0 es (by omega)
    obtain ⟨s', pool, a', b', c', r1, r2, r3⟩ := ih (i+1) s1 (acc ++ [mk N (bdM u (-m * u) es)]) (some (.val (.int i))) (some (.val (.lst (es.map ed)))) (some (.val (.int p))) (by rw [List.length_append, List.length_singleton]; omega) (by
      intro d hd
      rcases List.mem_append.mp hd with hd | hd
      · exact hacc d hd
      · rw [List.mem_singleton.mp hd]
        exact mk_ok _ (by rw [bd_len]; omega))
    refine ⟨s', pool, a', b', c', by rw [r1, List.length_append, List.length_singleton]; omega, r2, ?_⟩
    have zz : (acc.length + 1 ≤ 16777216) := by omega
    rw [← r3, List.range'_succ, List.map_cons, M_for_cons]
    simp -dsimp only [M_run, varH_val, varH_ol, varH_od, varH_oi, M_cx_rf, M_cx_sub, M_cx_call, seqG_next, seqG_ret, seqG_brk, seqG_cnt, nox_ok, wipe, forA_some, forK_next, forK_cnt, forK_brk, forK_ret, forK_exc, whlK_next, whlK_cnt, whlK_brk, whlK_ret, whlK_exc, whlB_t, whlB_f, lcA_some, lcB_t, lcB_f, M_ev_var, M_ev_pth, M_ev_cst, M_ev_glb, M_ev_bin, M_ev_neg, M_ev_cmp, M_ev_chn, M_ev_and, M_ev_or, M_ev_not, M_ev_iff, M_ev_tup, M_ev_lst, M_ev_ix, M_ev_slc, M_ev_rev, M_ev_call, M_ev_mth, M_ev_new, M_ev_att, M_ev_bi, M_ev_isi, M_ev_isx, M_ev_dget, M_ev_dct0, M_ev_pop, M_ev_popi, M_ev_lc, M_ev_dc, M_ev_stk, M_tst_e, M_tst_and, M_tst_or, M_tst_not, M_tstO_no, M_tstO_yes, M_evs_nil, M_evs_cons, M_evD_nil, M_evD_cons, M_evO_no, M_evO_yes, M_evI_e, M_evI_r1, M_evI_r2, M_ex_asg, M_ex_par, M_ex_mov, M_ex_aug, M_ex_sIx, M_ex_sAt, M_ex_augIx, M_ex_augAt, M_ex_exp, M_ex_app, M_ex_ext, M_ex_ins, M_ex_iff, M_ex_whl, M_ex_for_, M_ex_forO, M_ex_ret, M_ex_retM, M_ex_retN, M_ex_brk, M_ex_cnt, M_ex_pass, M_ex_rais, M_ex_stk, M_ex_tr, M_exs_nil, M_exs_cons, M_exh_nil, M_exh_cons, List.length_cons, List.length_nil, Nat.zero_add, Nat.reduceAdd, Nat.reduceSub, Nat.reduceLeDiff, Nat.reduceLT, if_pos, List.map_cons, List.map_nil, rb_ok, rb_none, ob_some, ob_none, sGet, List.cons_append, List.nil_append, List.replicate, cmpH, peek, look, peekV, vals_map, fzL_map, vals, cmpD, fits, fit, fitL, eqv, lf, truV, blOf, Bool.false_eq_true, if_false, if_true, List.set, asgH, esc, put, setP, getP, fz, fzL, asgH.lf', asgD, asgNs, biH, peeks, biD, lenV, newH, binH, binD, ixH, subH, toSV, toSVs, setSVs, okS, setH, setV, isOl, appH, fin_next, fin_ret, outsOf, callH, handArgs, handed, noTwice, backArgs, retH_val, retH_ol, retH_od, retH_oi, List.headD_cons, List.tail_cons, List.headD_nil, List.tail_nil, seqOf, decide_true, decide_false, Bool.and_self, Bool.true_and, Bool.and_true, Bool.false_and, Bool.and_false, Bool.not_true, Bool.not_false, Bool.or_true, Bool.or_false, Bool.true_or, Bool.false_or, List.isEmpty_cons, List.isEmpty_nil, reduceCtorEq, List.contains_nil, List.contains_cons, Nat.reduceBEq, sizeOk, atI_c0, atI_c1, atI_c2, atI_c3, atI_c4, slcD, cut_1, intOf, ix_30, ix_31, ix_32, isTy, List.any_cons, List.any_nil, isNon, isNonV, List.length_map, augD, List.getElem?_cons_zero, List.getElem?_cons_succ, Int.reduceLT, ix_10, ix_1m, ix_20, ix_21, ix_2m, ix_3m, ix_40, ix_41, ix_42, ix_43, ix_4m, ix_50, ix_51, ix_52, ix_53, ix_54, ix_5m, ix_60, ix_61, ix_62, ix_63, ix_64, ix_65, ix_6m, ix_70, ix_71, ix_72, ix_73, ix_74, ix_75, ix_76, ix_7m, ix_80, ix_81, ix_82, ix_83, ix_84, ix_85, ix_86, ix_87, ix_8m, rf0, rf1, rf2, rf3, rf4, rf5, rf6, rf7, rf8, rf9, rf10, rf11, rf12, rf13, rf14, rf15, rf16, rf17, rf18, rf19, rf20, rf21, rf22, rf23, rf24, rf25, rf26, rf27, rf28, rf29, rf30, rf31, rf32, rf33, rf34, rf35, rf36, rf37, rf38, varH_strm, hm, hm1, hf, hb, zz, forK_next, List.map_append, List.length_map]
end
theorem TrOk.tok {pool : List D} {n : Nat} {u : Trc} (h : TrOk pool n u) (hp : ∀ d ∈ pool, MkOk d) : TOk n u := ⟨h.ln, fun p hp' => hp _ (h.ms p hp')⟩
instance nice1344 : Nice 1344 := ⟨by decide, by decide⟩
theorem holds0 (k : Nat) (is : List Int) : M.call prog (k+22) 38 [.val (.lst (is.map D.int))] = some (.ok (.val (.bl true)) []) := by
  obtain ⟨c0, hc0⟩ := w_cell (k+20) is 0
  obtain ⟨c1, hc1⟩ := w_cell (k+20) is 1
  obtain ⟨c2, hc2⟩ := w_cell (k+20) is 2
  obtain ⟨s0, hs0⟩ := w_stream (k+20) c0
  obtain ⟨s1, hs1⟩ := w_stream (k+20) c1
  obtain ⟨s2, hs2⟩ := w_stream (k+20) c2
  have hn := w_next (k+20) s0 2 (by decide) (by decide)
  have b0 := nx_bd s0 (size := 2) (by decide)
  have eN : nx s0 2 + 2 = (((nx s0 2 + 2).toNat : Nat) : Int) := by omega
  obtain ⟨n, hn'⟩ : ∃ n, n = (nx s0 2 + 2).toNat := ⟨_, rfl⟩
  rw [← hn'] at eN
  have hr := rngK_nat (n := n) (by omega)
  obtain ⟨s3, pool, a', b', c', r1, r2, r3⟩ := pool_loop (N := 1344) (Int.dvd_refl _) (k+1) (some (.val (.lst (is.map D.int)))) none none none none none none n 0 (ns s0 2) [] none none none (by simp; omega) nofun
  rw [← List.range_eq_range'] at r3
  simp only [List.length_nil, Nat.zero_add] at r1
  obtain ⟨s4, hg⟩ := w_gh (N := 1344) (Int.dvd_refl _) k s3
  have hp0 : pool ≠ [] := by intro z; rw [z] at r1; simp at r1; omega
  have d1 := den_bd pool.length s1
  have d2 := den_bd pool.length s2
  have m1 : 1 ≤ den pool.length s1 * den pool.length s2 := Int.mul_le_mul d1.1 d2.1 (by omega) (by omega)
  have m2 : den pool.length s1 * den pool.length s2 ≤ 99 * 99 := Int.mul_le_mul d1.2 d2.2 (by omega) (by omega)
  haveI hN : Nice (1344 * (den pool.length s1 * den pool.length s2)) := ⟨by omega, by omega⟩
  obtain ⟨u, v, s5, t1, t2, ht⟩ := w_two (N := 1344 * (den pool.length s1 * den pool.length s2)) (k+17) pool hp0 (by omega) s1 ⟨den pool.length s2, by rw [Int.mul_assoc]⟩
  obtain ⟨s, t, s6, t3, t4, ht2⟩ := w_two (N := 1344 * (den pool.length s1 * den pool.length s2)) (k+17) pool hp0 (by omega) s2 ⟨den pool.length s1, by rw [Int.mul_assoc, Int.mul_comm (den pool.length s2)]⟩
  have hj := w_joins (N := 1344 * (den pool.length s1 * den pool.length s2)) k (t1.tok r2) (t3.tok r2) (t4.tok r2)
  have hl1 := w_leads (N := 1344 * (den pool.length s1 * den pool.length s2)) k (t1.tok r2) (t2.tok r2) (t3.tok r2) (t4.tok r2)
  have hl2 := w_leads (N := 1344 * (den pool.length s1 * den pool.length s2)) k (t3.tok r2) (t4.tok r2) (t1.tok r2) (t2.tok r2)
  have hs := w_sm (k+1) (d := .tup [.tup [], .tup [.int 0, .int 1]]) (by
    refine .tup (fun x hx => ?_) (by simp)
    simp only [List.mem_cons, List.not_mem_nil, or_false] at hx
    rcases hx with rfl | rfl
    · exact .tup nofun (by simp)
    · refine .tup (fun x hx => ?_) (by simp)
      simp only [List.mem_cons, List.not_mem_nil, or_false] at hx
      rcases hx with rfl | rfl <;> exact .int _)
  have hc0' : M.call prog (k+21) 13 [.val (.lst (is.map D.int)), .val (.int 0)] = _ := hc0
  have hc1' : M.call prog (k+21) 13 [.val (.lst (is.map D.int)), .val (.int 1)] = _ := hc1
  have hc2' : M.call prog (k+21) 13 [.val (.lst (is.map D.int)), .val (.int 2)] = _ := hc2
  simp only [List.map_nil] at r3
  simp -dsimp only [g38, f_law, M_run, varH_val, varH_ol, varH_od, varH_oi, M_cx_rf, M_cx_sub, M_cx_call, seqG_next, seqG_ret, seqG_brk, seqG_cnt, nox_ok, wipe, forA_some, forK_next, forK_cnt, forK_brk, forK_ret, forK_exc, whlK_next, whlK_cnt, whlK_brk, whlK_ret, whlK_exc, whlB_t, whlB_f, lcA_some, lcB_t, lcB_f, M_ev_var, M_ev_pth, M_ev_cst, M_ev_glb, M_ev_bin, M_ev_neg, M_ev_cmp, M_ev_chn, M_ev_and, M_ev_or, M_ev_not, M_ev_iff, M_ev_tup, M_ev_lst, M_ev_ix, M_ev_slc, M_ev_rev, M_ev_call, M_ev_mth, M_ev_new, M_ev_att, M_ev_bi, M_ev_isi, M_ev_isx, M_ev_dget, M_ev_dct0, M_ev_pop, M_ev_popi, M_ev_lc, M_ev_dc, M_ev_stk, M_tst_e, M_tst_and, M_tst_or, M_tst_not, M_tstO_no, M_tstO_yes, M_evs_nil, M_evs_cons, M_evD_nil, M_evD_cons, M_evO_no, M_evO_yes, M_evI_e, M_evI_r1, M_evI_r2, M_ex_asg, M_ex_par, M_ex_mov, M_ex_aug, M_ex_sIx, M_ex_sAt, M_ex_augIx, M_ex_augAt, M_ex_exp, M_ex_app, M_ex_ext, M_ex_ins, M_ex_iff, M_ex_whl, M_ex_for_, M_ex_forO, M_ex_ret, M_ex_retM, M_ex_retN, M_ex_brk, M_ex_cnt, M_ex_pass, M_ex_rais, M_ex_stk, M_ex_tr, M_exs_nil, M_exs_cons, M_exh_nil, M_exh_cons, List.length_cons, List.length_nil, Nat.zero_add, Nat.reduceAdd, Nat.reduceSub, Nat.reduceLeDiff, Nat.reduceLT, if_pos, List.map_cons, List.map_nil, rb_ok, rb_none, ob_some, ob_none, sGet, List.cons_append, List.nil_append, List.replicate, cmpH, peek, look, peekV, vals_map, fzL_map, vals, cmpD, fits, fit, fitL, eqv, lf, truV, blOf, Bool.false_eq_true, if_false, if_true, List.set, asgH, esc, put, setP, getP, fz, fzL, asgH.lf', asgD, asgNs, biH, peeks, biD, lenV, newH, binH, binD, ixH, subH, toSV, toSVs, setSVs, okS, setH, setV, isOl, appH, fin_next, fin_ret, outsOf, callH, handArgs, handed, noTwice, backArgs, retH_val, retH_ol, retH_od, retH_oi, List.headD_cons, List.tail_cons, List.headD_nil, List.tail_nil, seqOf, decide_true, decide_false, Bool.and_self, Bool.true_and, Bool.and_true, Bool.false_and, Bool.and_false, Bool.not_true, Bool.not_false, Bool.or_true, Bool.or_false, Bool.true_or, Bool.false_or, List.isEmpty_cons, List.isEmpty_nil, reduceCtorEq, List.contains_nil, List.contains_cons, Nat.reduceBEq, sizeOk, atI_c0, atI_c1, atI_c2, atI_c3, atI_c4, slcD, cut_1, intOf, ix_30, ix_31, ix_32, isTy, List.any_cons, List.any_nil, isNon, isNonV, List.length_map, augD, List.getElem?_cons_zero, List.getElem?_cons_succ, Int.reduceLT, ix_10, ix_1m, ix_20, ix_21, ix_2m, ix_3m, ix_40, ix_41, ix_42, ix_43, ix_4m, ix_50, ix_51, ix_52, ix_53, ix_54, ix_5m, ix_60, ix_61, ix_62, ix_63, ix_64, ix_65, ix_6m, ix_70, ix_71, ix_72, ix_73, ix_74, ix_75, ix_76, ix_7m, ix_80, ix_81, ix_82, ix_83, ix_84, ix_85, ix_86, ix_87, ix_8m, rf0, rf1, rf2, rf3, rf4, rf5, rf6, rf7, rf8, rf9, rf10, rf11, rf12, rf13, rf14, rf15, rf16, rf17, rf18, rf19, rf20, rf21, rf22, rf23, rf24, rf25, rf26, rf27, rf28, rf29, rf30, rf31, rf32, rf33, rf34, rf35, rf36, rf37, rf38, varH_strm, rb_strm, hc0', hc1', hc2', hs0, hs1, hs2, hn, eN, hr, r3, hg, ht, ht2, hj, hl1, hl2, hs]
theorem holds (is : List Int) : ∃ outs, callN prog 60 38 [.val (.lst (is.map D.int))] = some (.ok (.val (.bl true)) outs) := ⟨[], by rw [M_callN]; exact holds0 38 is⟩
end K89
end

section
set_option Elab.async false
set_option linter.all false
set_option maxRecDepth 100000
set_option maxHeartbeats 4000000
/-! PvRel: what the layer's heap says of data and owned objects. -/
namespace Ps
open PySem PySem.Spec PyProof.Rows L2
open Pv (D SV Hd Stp Cxt Res Out Flow)

abbrev AS := Addr → Prop
abbrev AS.no : AS := fun _ => False
abbrev tx (s : Pv.Txt) : Str := ⟨s.toArray⟩

/-- a tuple, a list of the written part -/
def KTup (K : PySem.W.Frag) (a : Addr) (xs : List V) : Prop :=
  ∃ (o : Obj) (its : Array Value) (n : Nat), K.lookup a = some o ∧ o.cls = .type "tuple" ∧ o.data = .seq its n ∧ its.size ≤ sizeLine ∧ Vals xs its.toList
def KLst (K : PySem.W.Frag) (a : Addr) (xs : List V) : Prop :=
  ∃ (o : Obj) (its : Array Value) (n : Nat), K.lookup a = some o ∧ o.cls = .type "list" ∧ o.dict = none ∧ o.data = .seq its n ∧ its.size ≤ sizeLine ∧ Vals xs its.toList

mutual
/-- v is the data d; Z: what never changes -/
inductive Den (K : PySem.W.Frag) (Z : AS) (H : Hp) : V → D → Prop
  | non : Den K Z H .non .non
  | bl (b : Bool) : Den K Z H (.bl b) (.bl b)
  | int (i : Int) : Den K Z H (.int i) (.int i)
  | str (s : Pv.Txt) : Den K Z H (.str (tx s)) (.str s)
  | tup {a : Addr} {xs : List V} {ds : List D} : Rd H a (.tup xs) → Z a → DenL K Z H xs ds → Den K Z H (.ref a) (.tup ds)
  | tupK {a : Addr} {xs : List V} {ds : List D} : KTup K a xs → DenL K Z H xs ds → Den K Z H (.ref a) (.tup ds)
  | lst {a : Addr} {xs : List V} {ds : List D} : Rd H a (.lst xs) → Z a → DenL K Z H xs ds → Den K Z H (.ref a) (.lst ds)
  | lstK {a : Addr} {xs : List V} {ds : List D} : KLst K a xs → DenL K Z H xs ds → Den K Z H (.ref a) (.lst ds)
inductive DenL (K : PySem.W.Frag) (Z : AS) (H : Hp) : List V → List D → Prop
  | nil : DenL K Z H [] []
  | cons {v : V} {d : D} {vs : List V} {ds : List D} : Den K Z H v d → DenL K Z H vs ds → DenL K Z H (v :: vs) (d :: ds)
end

section
variable {K : PySem.W.Frag} {Z Z' : AS} {H H' : Hp}
mutual
theorem Den.mono (k : ∀ a o, Z a → H a = some o → H' a = some o) (z : ∀ a, Z a → Z' a) : ∀ {v : V} {d : D}, Den K Z H v d → Den K Z' H' v d
  | _, _, .non => .non
  | _, _, .bl b => .bl b
  | _, _, .int i => .int i
  | _, _, .str s => .str s
  | _, _, .tup (a := a) r h t => .tup (r.elim (fun e => .inl (k a _ h e)) fun ⟨o, e⟩ => .inr ⟨o, k a _ h e⟩) (z _ h) (DenL.mono k z t)
  | _, _, .tupK r t => .tupK r (DenL.mono k z t)
  | _, _, .lst (a := a) r h t => .lst (r.elim (fun e => .inl (k a _ h e)) fun ⟨o, e⟩ => .inr ⟨o, k a _ h e⟩) (z _ h) (DenL.mono k z t)
  | _, _, .lstK r t => .lstK r (DenL.mono k z t)
theorem DenL.mono (k : ∀ a o, Z a → H a = some o → H' a = some o) (z : ∀ a, Z a → Z' a) : ∀ {vs : List V} {ds : List D}, DenL K Z H vs ds → DenL K Z' H' vs ds
  | _, _, .nil => .nil
  | _, _, .cons a b => .cons (Den.mono k z a) (DenL.mono k z b)
end
theorem DenL.length : ∀ {vs : List V} {ds : List D}, DenL K Z H vs ds → vs.length = ds.length
  | _, _, .nil => rfl
  | _, _, .cons _ t => congrArg (· + 1) t.length
theorem DenL.append : ∀ {vs ws : List V} {ds es : List D}, DenL K Z H vs ds → DenL K Z H ws es → DenL K Z H (vs ++ ws) (ds ++ es)
  | _, _, _, _, .nil, t => t
  | _, _, _, _, .cons a b, t => .cons a (b.append t)
theorem DenL.get : ∀ {vs : List V} {ds : List D} {i : Nat} {d : D}, DenL K Z H vs ds → ds[i]? = some d → ∃ v, vs[i]? = some v ∧ Den K Z H v d
  | _, _, _, _, .nil, e => by simp at e
  | _, _, 0, _, .cons a _, e => by simp at e; subst e; exact ⟨_, rfl, a⟩
  | _, _, i + 1, _, .cons _ b, e => by
    obtain ⟨v, h1, h2⟩ := b.get (by simpa using e)
    exact ⟨v, by simpa using h1, h2⟩
theorem DenL.take : ∀ {vs : List V} {ds : List D} (n : Nat), DenL K Z H vs ds → DenL K Z H (vs.take n) (ds.take n)
  | _, _, 0, _ => by simpa using DenL.nil
  | _, _, _ + 1, .nil => .nil
  | _, _, n + 1, .cons a b => .cons a (b.take n)
theorem DenL.drop : ∀ {vs : List V} {ds : List D} (n : Nat), DenL K Z H vs ds → DenL K Z H (vs.drop n) (ds.drop n)
  | _, _, 0, t => t
  | _, _, _ + 1, .nil => .nil
  | _, _, n + 1, .cons _ b => b.drop n
theorem DenL.reverse : ∀ {vs : List V} {ds : List D}, DenL K Z H vs ds → DenL K Z H vs.reverse ds.reverse
  | _, _, .nil => .nil
  | _, _, .cons a b => by
    rw [List.reverse_cons, List.reverse_cons]
    exact b.reverse.append (.cons a .nil)
theorem DenL.set : ∀ {vs : List V} {ds : List D} {v : V} {d : D} (i : Nat), DenL K Z H vs ds → Den K Z H v d → DenL K Z H (vs.set i v) (ds.set i d)
  | _, _, _, _, _, .nil, _ => .nil
  | _, _, _, _, 0, .cons _ b, r => .cons r b
  | _, _, _, _, i + 1, .cons a b, r => .cons a (b.set i r)
theorem SqT.tup {a : Addr} {xs : List V} (h : SqT K H a xs) : Rd H a (.tup xs) ∨ KTup K a xs := h
theorem SqT.ofK {a : Addr} {xs : List V} (h : KTup K a xs) : SqT K H a xs := .inr h
theorem SqL.ofK {a : Addr} {xs : List V} (h : KLst K a xs) : SqL K H a xs := .inr h
theorem SqT.ofR {a : Addr} {xs : List V} (h : Rd H a (.tup xs)) : SqT K H a xs := .inl h
theorem SqL.ofR {a : Addr} {xs : List V} (h : Rd H a (.lst xs)) : SqL K H a xs := .inl h
theorem Den.tupOf {v : V} {ds : List D} (h : Den K Z H v (.tup ds)) : ∃ a xs, v = .ref a ∧ SqT K H a xs ∧ DenL K Z H xs ds := by
  cases h with
  | tup r z t => exact ⟨_, _, rfl, SqT.ofR r, t⟩
  | tupK r t => exact ⟨_, _, rfl, SqT.ofK r, t⟩
theorem Den.lstOf {v : V} {ds : List D} (h : Den K Z H v (.lst ds)) : ∃ a xs, v = .ref a ∧ SqL K H a xs ∧ DenL K Z H xs ds := by
  cases h with
  | lst r z t => exact ⟨_, _, rfl, SqL.ofR r, t⟩
  | lstK r t => exact ⟨_, _, rfl, SqL.ofK r, t⟩
end

/-! ### data for the library -/
mutual
def toPy : D → PyData
  | .non => .none
  | .bl b => .bool b
  | .int i => .int i
  | .str s => .str (tx s)
  | .tup xs => .tuple (toPyL xs)
  | .lst xs => .list (toPyL xs)
  | _ => .none
def toPyL : List D → List PyData
  | [] => []
  | x :: xs => toPy x :: toPyL xs
end
theorem toPyL_map (xs : List D) : toPyL xs = xs.map toPy := by
  induction xs with
  | nil => rfl
  | cons x xs ih => simp only [toPyL, List.map_cons, ih]
section
variable {K : PySem.W.Frag} {Z : AS} {H : Hp}
mutual
theorem Den.dp : ∀ {v : V} {d : D}, Den K Z H v d → Dp K H v (toPy d)
  | _, _, .non => .non
  | _, _, .bl b => .bl b
  | _, _, .int i => .int i
  | _, _, .str s => .str _
  | _, _, .tup r _ t => .tup (SqT.ofR r) (DenL.dp t)
  | _, _, .tupK r t => .tup (SqT.ofK r) (DenL.dp t)
  | _, _, .lst r _ t => .lst (SqL.ofR r) (DenL.dp t)
  | _, _, .lstK r t => .lst (SqL.ofK r) (DenL.dp t)
theorem DenL.dp : ∀ {vs : List V} {ds : List D}, DenL K Z H vs ds → DpAll K H vs (toPyL ds)
  | _, _, .nil => .nil
  | _, _, .cons a b => .cons (Den.dp a) (DenL.dp b)
end
end
theorem str_tx_eq (x y : Pv.Txt) : ((tx x : Str) == tx y) = (x == y) := by
  rw [Bool.eq_iff_iff]
  simp
mutual
theorem eqv_py : ∀ (x y : D), (∃ n, Pv.fit x n = true) → (∃ n, Pv.fit y n = true) → PyData.eqv (toPy x) (toPy y) = Pv.eqv x y
  | .non, y, _, hy => by cases y <;> simp [toPy, PyData.eqv, Pv.eqv] <;> (obtain ⟨n, hn⟩ := hy; simp [Pv.fit] at hn)
  | .bl a, y, _, hy => by cases y <;> simp [toPy, PyData.eqv, Pv.eqv] <;> (obtain ⟨n, hn⟩ := hy; simp [Pv.fit] at hn)
  | .int a, y, _, hy => by cases y <;> simp [toPy, PyData.eqv, Pv.eqv] <;> (obtain ⟨n, hn⟩ := hy; simp [Pv.fit] at hn)
  | .str a, y, _, hy => by
    cases y with
    | str b => show ((tx a : Str) == tx b) = (a == b); exact str_tx_eq a b
    | _ => simp [toPy, PyData.eqv, Pv.eqv] <;> (obtain ⟨n, hn⟩ := hy; simp [Pv.fit] at hn)
  | .tup xs, y, hx, hy => by
    cases y with
    | tup ys =>
      have h1 : ∃ n, Pv.fitL xs n = true := by
        obtain ⟨n, hn⟩ := hx
        cases n with
        | zero => simp [Pv.fit] at hn
        | succ n => exact ⟨n, by simpa [Pv.fit] using hn⟩
      have h2 : ∃ n, Pv.fitL ys n = true := by
        obtain ⟨n, hn⟩ := hy
        cases n with
        | zero => simp [Pv.fit] at hn
        | succ n => exact ⟨n, by simpa [Pv.fit] using hn⟩
      simp only [toPy, PyData.eqv, Pv.eqv]
      exact eqvL_py xs ys h1 h2
    | _ => simp [toPy, PyData.eqv, Pv.eqv] <;> (obtain ⟨n, hn⟩ := hy; simp [Pv.fit] at hn)
  | .lst xs, y, hx, hy => by
    cases y with
    | lst ys =>
      have h1 : ∃ n, Pv.fitL xs n = true := by
        obtain ⟨n, hn⟩ := hx
        cases n with
        | zero => simp [Pv.fit] at hn
        | succ n => exact ⟨n, by simpa [Pv.fit] using hn⟩
      have h2 : ∃ n, Pv.fitL ys n = true := by
        obtain ⟨n, hn⟩ := hy
        cases n with
        | zero => simp [Pv.fit] at hn
        | succ n => exact ⟨n, by simpa [Pv.fit] using hn⟩
      simp only [toPy, PyData.eqv, Pv.eqv]
      exact eqvL_py xs ys h1 h2
    | _ => simp [toPy, PyData.eqv, Pv.eqv] <;> (obtain ⟨n, hn⟩ := hy; simp [Pv.fit] at hn)
  | .dct _ _ _, _, hx, _ => by obtain ⟨n, hn⟩ := hx; simp [Pv.fit] at hn
  | .obj _ _ _, _, hx, _ => by obtain ⟨n, hn⟩ := hx; simp [Pv.fit] at hn
theorem eqvL_py : ∀ (xs ys : List D), (∃ n, Pv.fitL xs n = true) → (∃ n, Pv.fitL ys n = true) → PyData.eqvAll (toPyL xs) (toPyL ys) = Pv.eqvL xs ys
  | [], [], _, _ => by simp [toPyL, PyData.eqvAll, Pv.eqvL]
  | [], y :: ys, _, _ => by simp [toPyL, PyData.eqvAll, Pv.eqvL]
  | x :: xs, [], _, _ => by simp [toPyL, PyData.eqvAll, Pv.eqvL]
  | x :: xs, y :: ys, ⟨n, hx⟩, ⟨m, hy⟩ => by
    simp only [Pv.fitL, Bool.and_eq_true] at hx hy
    simp only [toPyL, PyData.eqvAll, Pv.eqvL]
    rw [eqv_py x y ⟨n, hx.1⟩ ⟨m, hy.1⟩, eqvL_py xs ys ⟨n, hx.2⟩ ⟨m, hy.2⟩]
end
mutual
theorem fit_py : ∀ (x : D) (n : Nat), Pv.fit x n = true → (toPy x).canLay0 = true ∧ (toPy x).depth ≤ n
  | .non, n, _ => by simp [toPy, PyData.canLay0, PyData.depth]
  | .bl _, n, _ => by simp [toPy, PyData.canLay0, PyData.depth]
  | .int _, n, _ => by simp [toPy, PyData.canLay0, PyData.depth]
  | .str s, n, h => by
    have h' : s.all (fun c => decide (c < 1114112)) = true := by simpa only [Pv.fit] using h
    refine ⟨?_, by simp [toPy, PyData.depth]⟩
    simp only [toPy, PyData.canLay0]
    show (tx s).cps.all (fun c => decide (c < 0x110000)) = true
    rw [← Array.all_toList]
    exact h'
  | .tup xs, 0, h => by simp [Pv.fit] at h
  | .lst xs, 0, h => by simp [Pv.fit] at h
  | .tup xs, n + 1, h => by
    obtain ⟨h1, h2⟩ := fitL_py xs n (by simpa only [Pv.fit] using h)
    simp only [toPy, PyData.canLay0, PyData.depth]
    exact ⟨h1, by omega⟩
  | .lst xs, n + 1, h => by
    obtain ⟨h1, h2⟩ := fitL_py xs n (by simpa only [Pv.fit] using h)
    simp only [toPy, PyData.canLay0, PyData.depth]
    exact ⟨h1, by omega⟩
  | .dct _ _ _, n, h => by simp [Pv.fit] at h
  | .obj _ _ _, n, h => by simp [Pv.fit] at h
theorem fitL_py : ∀ (xs : List D) (n : Nat), Pv.fitL xs n = true → PyData.canLayAll0 (toPyL xs) = true ∧ PyData.depthAll (toPyL xs) ≤ n
  | [], n, _ => by simp [toPyL, PyData.canLayAll0, PyData.depthAll]
  | x :: xs, n, h => by
    simp only [Pv.fitL, Bool.and_eq_true] at h
    obtain ⟨h1, h2⟩ := fit_py x n h.1
    obtain ⟨h3, h4⟩ := fitL_py xs n h.2
    simp only [toPyL, PyData.canLayAll0, PyData.depthAll, h1, h3]
    exact ⟨rfl, by omega⟩
end
theorem fits_shaped {x : D} (h : Pv.fits x = true) : SeqAt.shaped (toPy x) = true := by
  obtain ⟨h1, h2⟩ := fit_py x 64 h
  show ((toPy x).canLay0 && decide ((toPy x).depth ≤ 64)) = true
  rw [h1, decide_eq_true h2]
  rfl

/-! ### owned objects -/
mutual
/-- v is the object o; F: the objects that are o's own -/
inductive DenS (K : PySem.W.Frag) (Z : AS) (H : Hp) : V → SV → AS → Prop
  | val {v : V} {d : D} : Den K Z H v d → DenS K Z H v (.val d) AS.no
  | ol {a : Addr} {xs : List V} {os : List SV} {F : AS} : H a = some (.lst xs) → DenSL K Z H xs os F → ¬ F a → DenS K Z H (.ref a) (.ol os) (fun b => b = a ∨ F b)
inductive DenSL (K : PySem.W.Frag) (Z : AS) (H : Hp) : List V → List SV → AS → Prop
  | nil : DenSL K Z H [] [] AS.no
  | cons {v : V} {o : SV} {vs : List V} {os : List SV} {F G : AS} : DenS K Z H v o F → DenSL K Z H vs os G → (∀ a, F a → ¬ G a) → DenSL K Z H (v :: vs) (o :: os) (fun b => F b ∨ G b)
end
section
variable {K : PySem.W.Frag} {Z Z' : AS} {H H' : Hp}
mutual
theorem DenS.mono (k : ∀ a o, Z a → H a = some o → H' a = some o) (z : ∀ a, Z a → Z' a) : ∀ {v : V} {o : SV} {F : AS}, DenS K Z H v o F → (∀ a o, F a → H a = some o → H' a = some o) → DenS K Z' H' v o F
  | _, _, _, .val d, _ => .val (d.mono k z)
  | _, _, _, .ol (a := a) e t n, f => .ol (f a _ (.inl rfl) e) (DenSL.mono k z t fun b o hb => f b o (.inr hb)) n
theorem DenSL.mono (k : ∀ a o, Z a → H a = some o → H' a = some o) (z : ∀ a, Z a → Z' a) : ∀ {vs : List V} {os : List SV} {F : AS}, DenSL K Z H vs os F → (∀ a o, F a → H a = some o → H' a = some o) → DenSL K Z' H' vs os F
  | _, _, _, .nil, _ => .nil
  | _, _, _, .cons a b n, f => .cons (DenS.mono k z a fun c o hc => f c o (.inl hc)) (DenSL.mono k z b fun c o hc => f c o (.inr hc)) n
end
mutual
theorem DenS.trk : ∀ {v : V} {o : SV} {F : AS}, DenS K Z H v o F → ∀ a, F a → ∃ o, H a = some o
  | _, _, _, .val _, _, h => h.elim
  | _, _, _, .ol e t _, a, h => h.elim (fun q => by subst q; exact ⟨_, e⟩) fun q => DenSL.trk t a q
theorem DenSL.trk : ∀ {vs : List V} {os : List SV} {F : AS}, DenSL K Z H vs os F → ∀ a, F a → ∃ o, H a = some o
  | _, _, _, .nil, _, h => h.elim
  | _, _, _, .cons x y _, a, h => h.elim (fun q => DenS.trk x a q) fun q => DenSL.trk y a q
end
mutual
/-- an owned object becomes data -/
theorem DenS.frz : ∀ {v : V} {o : SV} {F : AS}, DenS K Z H v o F → Den K (fun a => Z a ∨ F a) H v (Pv.fz o)
  | _, _, _, .val d => d.mono (fun _ _ _ e => e) fun _ h => .inl h
  | _, _, _, .ol (F := F) e t n => by
    refine .lst (.inl e) (.inr (.inl rfl)) ?_
    exact (DenSL.frz t).mono (fun _ _ _ e => e) fun b h => h.elim .inl fun q => .inr (.inr q)
theorem DenSL.frz : ∀ {vs : List V} {os : List SV} {F : AS}, DenSL K Z H vs os F → DenL K (fun a => Z a ∨ F a) H vs (Pv.fzL os)
  | _, _, _, .nil => .nil
  | _, _, _, .cons a b n => .cons ((DenS.frz a).mono (fun _ _ _ e => e) fun c h => h.elim .inl fun q => .inr (.inl q)) ((DenSL.frz b).mono (fun _ _ _ e => e) fun c h => h.elim .inl fun q => .inr (.inr q))
end
theorem DenSL.length : ∀ {vs : List V} {os : List SV} {F : AS}, DenSL K Z H vs os F → vs.length = os.length
  | _, _, _, .nil => rfl
  | _, _, _, .cons _ t _ => congrArg (· + 1) t.length
theorem DenSL.vals : ∀ {vs : List V} {os : List SV} {F : AS} {ds : List D}, DenSL K Z H vs os F → Pv.vals os = some ds → DenL K Z H vs ds ∧ ∀ a, ¬ F a
  | _, _, _, _, .nil, e => by
    simp only [Pv.vals, Option.some.injEq] at e
    subst e
    exact ⟨.nil, fun _ h => h⟩
  | _, _, _, ds, .cons (o := o) (os := os) a b n, e => by
    cases a with
    | val d =>
      simp only [Pv.vals] at e
      cases q : Pv.vals os with
      | none => rw [q] at e; cases e
      | some es =>
        rw [q] at e
        simp only [Option.some.injEq] at e
        subst e
        obtain ⟨h1, h2⟩ := DenSL.vals b q
        exact ⟨.cons d h1, fun c h => h.elim (fun z => z) (h2 c)⟩
    | ol _ _ _ => simp [Pv.vals] at e
theorem DenSL.ofVals : ∀ {vs : List V} {ds : List D}, DenL K Z H vs ds → DenSL K Z H vs (ds.map SV.val) AS.no
  | _, _, .nil => .nil
  | _, _, .cons a b => by
    have h := DenSL.cons (.val a) (DenSL.ofVals b) (fun _ z => z.elim)
    have e : (fun b : Addr => AS.no b ∨ AS.no b) = AS.no := by funext x; simp
    rw [e] at h
    exact h
end
end Ps
end

section
set_option Elab.async false
set_option linter.all false
set_option maxRecDepth 100000
set_option maxHeartbeats 4000000
/-! PvJ: the state of the slots, steps, handles, judgements. -/
namespace Ps
open PySem PySem.Spec PyProof.Rows L2
open Pv (D SV Hd Stp Cxt Res Out Flow)

theorem sGet_get : ∀ (S : Pv.St) (i : Nat), Pv.sGet S i = (S[i]?).join
  | [], i => by simp [Pv.sGet]
  | v :: S, 0 => by simp [Pv.sGet]
  | v :: S, i + 1 => by simpa [Pv.sGet] using sGet_get S i
theorem sGet_lt {S : Pv.St} {i : Nat} {o : SV} (h : Pv.sGet S i = some o) : i < S.length := by
  rw [sGet_get] at h
  by_cases q : i < S.length
  · exact q
  · rw [List.getElem?_eq_none (by omega)] at h; cases h
theorem sGet_set (S : Pv.St) (i j : Nat) (v : Option SV) : Pv.sGet (S.set i v) j = if i = j ∧ i < S.length then v else Pv.sGet S j := by
  rw [sGet_get, sGet_get, List.getElem?_set]
  by_cases h : i = j
  · subst h
    by_cases q : i < S.length
    · simp [q]
    · rw [if_pos rfl, if_neg q, if_neg (fun z => q z.2), List.getElem?_eq_none (by omega)]
  · rw [if_neg h, if_neg (fun z => h z.1)]

/-- the slots: data or owned objects; Z never changes, fp i is slot i's own -/
structure Rel (K : PySem.W.Frag) (Z : AS) (fp : Nat → AS) (S : Pv.St) (σ : L2.St) (H : Hp) : Prop where
  len : σ.length = S.length
  slot : ∀ i o, Pv.sGet S i = some o → ∃ v, σ[i]? = some (some v) ∧ DenS K Z H v o (fp i)
  unset : ∀ i, Pv.sGet S i = none → ∀ a, ¬ fp i a
  apart : ∀ i j a, fp i a → fp j a → i = j
  dis : ∀ i a, fp i a → ¬ Z a
  trk : ∀ a, Z a → ∃ o, H a = some o
/-- what may happen: what is nobody's own is kept; what is new is new, or was a slot's own -/
structure Stq (Z : AS) (fp : Nat → AS) (H : Hp) (Z' : AS) (fp' : Nat → AS) (H' : Hp) : Prop where
  mono : ∀ a, Z a → Z' a
  newz : ∀ a, Z' a → Z a ∨ (∃ i, fp i a) ∨ H a = none
  newf : ∀ i a, fp' i a → (∃ j, fp j a) ∨ H a = none
  keep : ∀ a o, H a = some o → (∀ i, ¬ fp i a) → H' a = some o
  there : ∀ a, H' a = none → H a = none
def Ext (H H' : Hp) : Prop := ∀ a o, H a = some o → H' a = some o

section
variable {K : PySem.W.Frag} {Z Z' Z'' : AS} {fp fp' fp'' : Nat → AS} {S S' : Pv.St} {σ : L2.St} {H H' H'' : Hp}
theorem Rel.own_trk (R : Rel K Z fp S σ H) {i : Nat} {a : Addr} (h : fp i a) : ∃ o, H a = some o := by
  cases e : Pv.sGet S i with
  | none => exact absurd h (R.unset i e a)
  | some o =>
    obtain ⟨v, _, d⟩ := R.slot i o e
    exact d.trk a h
theorem Stq.refl : Stq Z fp H Z fp H := ⟨fun _ h => h, fun _ h => .inl h, fun i _ h => .inl ⟨i, h⟩, fun _ _ e _ => e, fun _ e => e⟩
theorem Stq.trans (a : Stq Z fp H Z' fp' H') (b : Stq Z' fp' H' Z'' fp'' H'') : Stq Z fp H Z'' fp'' H'' where
  mono := fun x h => b.mono x (a.mono x h)
  newz := fun x h => by
    rcases b.newz x h with h | ⟨i, h⟩ | h
    · exact a.newz x h
    · exact .inr (a.newf i x h)
    · exact .inr (.inr (a.there x h))
  newf := fun i x h => by
    rcases b.newf i x h with ⟨j, h⟩ | h
    · exact a.newf j x h
    · exact .inr (a.there x h)
  keep := fun x o e n => b.keep x o (a.keep x o e n) fun i h => by
    rcases a.newf i x h with ⟨j, h⟩ | h
    · exact n j h
    · rw [h] at e; cases e
  there := fun x e => a.there x (b.there x e)
theorem Ext.refl : Ext H H := fun _ _ e => e
theorem Ext.trans (a : Ext H H') (b : Ext H' H'') : Ext H H'' := fun x o e => b x o (a x o e)
theorem Ext.upd {p : Addr} {u : HO} (h : H p = none) : Ext H (upd H p u) := fun a o e => by rw [upd_ne (ne_of_none e h)]; exact e
theorem Rel.keepZ (R : Rel K Z fp S σ H) (s : Stq Z fp H Z' fp' H') : ∀ a o, Z a → H a = some o → H' a = some o := fun a o z e => s.keep a o e fun i h => R.dis i a h z
/-- data stays data -/
theorem Rel.den (R : Rel K Z fp S σ H) (s : Stq Z fp H Z' fp' H') {v : V} {d : D} (h : Den K Z H v d) : Den K Z' H' v d := h.mono (R.keepZ s) s.mono
/-- what is owned by none of the slots stays -/
theorem Rel.denS (R : Rel K Z fp S σ H) (s : Stq Z fp H Z' fp' H') {v : V} {o : SV} {F : AS} (h : DenS K Z H v o F) (n : ∀ a, F a → ∀ i, ¬ fp i a) : DenS K Z' H' v o F :=
  h.mono (R.keepZ s) s.mono fun a u f e => s.keep a u e (n a f)
/-- a new object, nobody's yet -/
theorem Rel.ext (R : Rel K Z fp S σ H) (x : Ext H H') : Rel K Z fp S σ H' :=
  ⟨R.len, fun i o e => let ⟨v, e1, d⟩ := R.slot i o e; ⟨v, e1, d.mono (fun a u _ q => x a u q) (fun _ z => z) fun a u _ q => x a u q⟩, R.unset, R.apart, R.dis, fun a z => let ⟨o, e⟩ := R.trk a z; ⟨o, x a o e⟩⟩
theorem Stq.ext (x : Ext H H') : Stq Z fp H Z fp H' :=
  ⟨fun _ h => h, fun _ h => .inl h, fun i _ h => .inl ⟨i, h⟩, fun a o e _ => x a o e, fun a e => by
    cases q : H a with
    | none => rfl
    | some o => rw [x a o q] at e; cases e⟩
/-- a new object that never changes -/
theorem Rel.newZ {p : Addr} {u : HO} (R : Rel K Z fp S σ H) (h : H p = none) : Rel K (fun a => Z a ∨ a = p) fp S σ (upd H p u) :=
  ⟨R.len, fun i o e => let ⟨v, e1, d⟩ := R.slot i o e; ⟨v, e1, d.mono (fun a u _ q => Ext.upd h a u q) (fun _ z => .inl z) fun a u _ q => Ext.upd h a u q⟩, R.unset, R.apart,
    (fun i a f z => z.elim (R.dis i a f) fun e => by
      subst e
      obtain ⟨o, q⟩ := R.own_trk f
      rw [h] at q; cases q),
    fun a z => z.elim (fun z => let ⟨o, e⟩ := R.trk a z; ⟨o, Ext.upd h a o e⟩) fun e => by subst e; exact ⟨u, upd_same⟩⟩
theorem Stq.newZ {p : Addr} {u : HO} (h : H p = none) : Stq Z fp H (fun a => Z a ∨ a = p) fp (upd H p u) where
  mono := fun _ z => .inl z
  newz := fun a z => z.elim .inl fun e => .inr (.inr (by rw [e]; exact h))
  newf := fun i _ h => .inl ⟨i, h⟩
  keep := fun a o e _ => Ext.upd h a o e
  there := fun a e => by
    cases q : H a with
    | none => rfl
    | some o => rw [Ext.upd h a o q] at e; cases e
end

/-! ### handles -/
/-- following a path from an object -/
inductive PathV (H : Hp) : V → List Stp → V → Prop
  | nil {v : V} : PathV H v [] v
  | ix {a : Addr} {xs : List V} {k : Nat} {u w : V} {p : List Stp} : H a = some (.lst xs) → xs[k]? = some u → PathV H u p w → PathV H (.ref a) (.ix k :: p) w
theorem PathV.ext {H H' : Hp} (x : Ext H H') : ∀ {v w : V} {p : List Stp}, PathV H v p w → PathV H' v p w
  | _, _, _, .nil => .nil
  | _, _, _, .ix e f t => .ix (x _ _ e) f (t.ext x)
/-- a place within an object -/
def stale : Hd → Bool
  | .at_ _ p => !p.isEmpty
  | _ => false
/-- v is the value of a handle; F: the objects of a new one -/
inductive HdD (K : PySem.W.Frag) (Z : AS) (fp : Nat → AS) (σ : L2.St) (H : Hp) : V → Hd → AS → Prop
  | d {v : V} {d : D} : Den K Z H v d → HdD K Z fp σ H v (.d d) AS.no
  | at_ {i : Nat} {p : List Stp} {r v : V} : σ[i]? = some (some r) → PathV H r p v → HdD K Z fp σ H v (.at_ i p) AS.no
  | fr {v : V} {o : SV} {F : AS} : DenS K Z H v o F → (∀ a, F a → ¬ Z a ∧ ∀ i, ¬ fp i a) → HdD K Z fp σ H v (.fr o) F
section
variable {K : PySem.W.Frag} {Z Z' : AS} {fp fp' : Nat → AS} {S S' : Pv.St} {σ : L2.St} {H H' : Hp}
theorem HdD.trk {v : V} {h : Hd} {F : AS} (x : HdD K Z fp σ H v h F) : ∀ a, F a → ∃ o, H a = some o := by
  cases x with
  | d _ => exact fun _ z => z.elim
  | at_ _ _ => exact fun _ z => z.elim
  | fr d _ => exact d.trk
theorem HdD.own {v : V} {h : Hd} {F : AS} (x : HdD K Z fp σ H v h F) : ∀ a, F a → ¬ Z a ∧ ∀ i, ¬ fp i a := by
  cases x with
  | d _ => exact fun _ z => z.elim
  | at_ _ _ => exact fun _ z => z.elim
  | fr _ n => exact n
/-- what is a new object's own is nobody else's behind a step -/
theorem own_step {F : AS} (n : ∀ a, F a → ¬ Z a ∧ ∀ i, ¬ fp i a) (t : ∀ a, F a → ∃ o, H a = some o) (s : Stq Z fp H Z' fp' H') : ∀ a, F a → ¬ Z' a ∧ ∀ i, ¬ fp' i a := fun a f => by
  obtain ⟨n1, n2⟩ := n a f
  obtain ⟨o, e⟩ := t a f
  refine ⟨fun z => ?_, fun i z => ?_⟩
  · rcases s.newz a z with z | ⟨i, z⟩ | z
    · exact n1 z
    · exact n2 i z
    · rw [e] at z; cases z
  · rcases s.newf i a z with ⟨j, z⟩ | z
    · exact n2 j z
    · rw [e] at z; cases z
theorem HdD.step (R : Rel K Z fp S σ H) (s : Stq Z fp H Z' fp' H') {v : V} {h : Hd} {F : AS} (x : HdD K Z fp σ H v h F) (q : stale h = true → Ext H H') : HdD K Z' fp' σ H' v h F := by
  cases x with
  | d d => exact .d (R.den s d)
  | at_ e p =>
    refine .at_ e ?_
    cases p with
    | nil => exact .nil
    | ix e1 e2 t => exact (PathV.ix e1 e2 t).ext (q rfl)
  | fr d n => exact .fr (R.denS s d fun a f => (n a f).2) (own_step n d.trk s)
end

/-! ### inversions -/
section
variable {K : PySem.W.Frag} {Z : AS} {fp : Nat → AS} {σ : L2.St} {H : Hp} {v : V} {F : AS}
theorem DenS.valOf {d : D} (h : DenS K Z H v (.val d) F) : Den K Z H v d ∧ F = AS.no := by
  generalize e : SV.val d = o at h
  cases h with
  | val d' => cases e; exact ⟨d', rfl⟩
  | ol _ _ _ => cases e
theorem DenS.olOf {os : List SV} (h : DenS K Z H v (.ol os) F) : ∃ a xs G, v = .ref a ∧ H a = some (.lst xs) ∧ DenSL K Z H xs os G ∧ ¬ G a ∧ F = fun b => b = a ∨ G b := by
  generalize e : SV.ol os = o at h
  cases h with
  | val d' => cases e
  | ol e1 t n => cases e; exact ⟨_, _, _, rfl, e1, t, n, rfl⟩
theorem HdD.dOf {d : D} (h : HdD K Z fp σ H v (.d d) F) : Den K Z H v d ∧ F = AS.no := by
  generalize e : Hd.d d = o at h
  cases h with
  | d d' => cases e; exact ⟨d', rfl⟩
  | at_ _ _ => cases e
  | fr _ _ => cases e
theorem HdD.frOf {o : SV} (h : HdD K Z fp σ H v (.fr o) F) : DenS K Z H v o F ∧ ∀ a, F a → ¬ Z a ∧ ∀ i, ¬ fp i a := by
  generalize e : Hd.fr o = o' at h
  cases h with
  | d d' => cases e
  | at_ _ _ => cases e
  | fr d n => cases e; exact ⟨d, n⟩
theorem HdD.atOf {i : Nat} {p : List Stp} (h : HdD K Z fp σ H v (.at_ i p) F) : (∃ r, σ[i]? = some (some r) ∧ PathV H r p v) ∧ F = AS.no := by
  generalize e : Hd.at_ i p = o' at h
  cases h with
  | d d' => cases e
  | at_ e1 p => cases e; exact ⟨⟨_, e1, p⟩, rfl⟩
  | fr d n => cases e
theorem Den.intOf {i : Int} (h : Den K Z H v (.int i)) : v = .int i := by cases h; rfl
theorem Den.blOf {i : Bool} (h : Den K Z H v (.bl i)) : v = .bl i := by cases h; rfl
theorem Den.nonOf (h : Den K Z H v .non) : v = .non := by cases h; rfl
end

/-! ### what stands at a handle -/
section
variable {K : PySem.W.Frag} {Z Z' : AS} {fp fp' : Nat → AS} {S S' : Pv.St} {σ : L2.St} {H H' : Hp}
theorem DenS.fld_no {v : V} {o q : SV} {F : AS} {f : Nat} {p : List Stp} (d : DenS K Z H v o F) : Pv.getP o (.fld f :: p) ≠ some q := by
  cases d <;> simp [Pv.getP]
theorem DenSL.at : ∀ {vs : List V} {os : List SV} {F : AS} {k : Nat} {v : V} {o : SV}, DenSL K Z H vs os F → vs[k]? = some v → os[k]? = some o → ∃ G, DenS K Z H v o G ∧ ∀ a, G a → F a
  | _, _, _, _, _, _, .nil, e, _ => by simp at e
  | _, _, _, 0, _, _, .cons x _ _, e1, e2 => by
    simp only [List.getElem?_cons_zero, Option.some.injEq] at e1 e2
    subst e1 e2
    exact ⟨_, x, fun _ z => .inl z⟩
  | _, _, _, k + 1, _, _, .cons _ y _, e1, e2 => by
    obtain ⟨G, d, g⟩ := DenSL.at y (by simpa using e1) (by simpa using e2)
    exact ⟨G, d, fun a z => .inr (g a z)⟩
/-- the part of an owned object that a path leads to -/
theorem DenS.path : ∀ {p : List Stp} {v w : V} {o q : SV} {F : AS}, DenS K Z H v o F → Pv.getP o p = some q → PathV H v p w → ∃ G, DenS K Z H w q G ∧ ∀ a, G a → F a
  | [], _, _, _, _, _, d, e, .nil => by
    simp only [Pv.getP, Option.some.injEq] at e
    subst e
    exact ⟨_, d, fun _ z => z⟩
  | .ix k :: p, _, _, _, _, _, d, e, .ix e1 e2 t => by
    cases d with
    | val d => simp [Pv.getP] at e
    | @ol a xs os F e3 l n =>
      rw [e1] at e3
      cases e3
      simp only [Pv.getP] at e
      cases q' : os[k]? with
      | none => rw [q'] at e; cases e
      | some o' =>
        rw [q'] at e
        obtain ⟨G', d', g'⟩ := DenSL.at l e2 q'
        obtain ⟨G, d2, g⟩ := DenS.path d' e t
        exact ⟨G, d2, fun a z => .inr (g' a (g a z))⟩
/-- what is looked at: data, or a slot's or a new object -/
theorem HdD.look (R : Rel K Z fp S σ H) {v : V} {h : Hd} {F : AS} {o : SV} (x : HdD K Z fp σ H v h F) (e : Pv.look h S = some o) : ∃ G, DenS K Z H v o G ∧ ∀ a, G a → F a ∨ ∃ i, fp i a := by
  cases x with
  | d d =>
    simp only [Pv.look, Option.some.injEq] at e
    subst e
    exact ⟨_, .val d, fun _ z => z.elim⟩
  | fr d n =>
    simp only [Pv.look, Option.some.injEq] at e
    subst e
    exact ⟨_, d, fun _ z => .inl z⟩
  | @at_ i p r v e1 pv =>
    simp only [Pv.look] at e
    cases q : Pv.sGet S i with
    | none => rw [q] at e; cases e
    | some u =>
      rw [q] at e
      obtain ⟨v', e2, d⟩ := R.slot i u q
      rw [e1] at e2
      cases e2
      obtain ⟨G, d', g⟩ := d.path e pv
      exact ⟨G, d', fun a z => .inr ⟨i, g a z⟩⟩
/-- to be read: data, or a list of data that some slot owns -/
inductive DenR (K : PySem.W.Frag) (Z : AS) (H : Hp) : V → D → Prop
  | den {v : V} {d : D} : Den K Z H v d → DenR K Z H v d
  | lst {a : Addr} {xs : List V} {ds : List D} : H a = some (.lst xs) → DenL K Z H xs ds → DenR K Z H (.ref a) (.lst ds)
theorem DenR.dp {v : V} {d : D} (h : DenR K Z H v d) : Dp K H v (toPy d) := by
  cases h with
  | den d => exact d.dp
  | lst e t => exact .lst (.inl (.inl e)) t.dp
theorem DenR.tupOf {v : V} {ds : List D} (h : DenR K Z H v (.tup ds)) : ∃ a xs, v = .ref a ∧ SqT K H a xs ∧ DenL K Z H xs ds := by
  cases h with
  | den d => exact d.tupOf
theorem DenR.lstOf {v : V} {ds : List D} (h : DenR K Z H v (.lst ds)) : ∃ a xs, v = .ref a ∧ SqL K H a xs ∧ DenL K Z H xs ds := by
  cases h with
  | den d => exact d.lstOf
  | lst e t => exact ⟨_, _, rfl, .inl (.inl e), t⟩
theorem DenR.seqOf {v : V} {d : D} {ds : List D} (h : DenR K Z H v d) (e : Pv.seqOf d = some ds) : ∃ a xs, v = .ref a ∧ (SqT K H a xs ∨ SqL K H a xs) ∧ DenL K Z H xs ds := by
  cases d <;> simp [Pv.seqOf] at e
  · subst e
    obtain ⟨a, xs, h1, h2, h3⟩ := h.tupOf
    exact ⟨a, xs, h1, .inl h2, h3⟩
  · subst e
    obtain ⟨a, xs, h1, h2, h3⟩ := h.lstOf
    exact ⟨a, xs, h1, .inr h2, h3⟩
theorem DenS.peek {v : V} {o : SV} {F : AS} {d : D} (x : DenS K Z H v o F) (e : Pv.peekV o = some d) : DenR K Z H v d := by
  cases x with
  | val d =>
    simp only [Pv.peekV, Option.some.injEq] at e
    subst e
    exact .den d
  | @ol a xs os F e1 l n =>
    simp only [Pv.peekV] at e
    cases q : Pv.vals os with
    | none => rw [q] at e; cases e
    | some ds =>
      rw [q] at e
      simp only [Option.some.injEq] at e
      subst e
      exact .lst e1 (l.vals q).1
theorem HdD.peek (R : Rel K Z fp S σ H) {v : V} {h : Hd} {F : AS} {d : D} (x : HdD K Z fp σ H v h F) (e : Pv.peek h S = some d) : DenR K Z H v d := by
  unfold Pv.peek at e
  cases q : Pv.look h S with
  | none => rw [q] at e; cases e
  | some o =>
    rw [q] at e
    obtain ⟨G, d', _⟩ := x.look R q
    exact d'.peek e
end

/-! ### new values -/
/-- v is the data d; a tuple or a list may be new -/
inductive NewD (K : PySem.W.Frag) (Z : AS) (H : Hp) : V → D → Hp → Prop
  | same {v : V} {d : D} : Den K Z H v d → (∀ xs, d ≠ .lst xs) → NewD K Z H v d H
  | tup {p : Addr} {xs : List V} {ds : List D} : H p = none → DenL K Z H xs ds → NewD K Z H (.ref p) (.tup ds) (upd H p (.tup xs))
  | lst {p : Addr} {xs : List V} {ds : List D} : H p = none → DenL K Z H xs ds → NewD K Z H (.ref p) (.lst ds) (upd H p (.lst xs))
section
variable {K : PySem.W.Frag} {Z Z' : AS} {fp fp' : Nat → AS} {S S' : Pv.St} {σ : L2.St} {H H' : Hp}
theorem NewD.hd (R : Rel K Z fp S σ H) {v : V} {d : D} (n : NewD K Z H v d H') : ∃ Z' F, Rel K Z' fp S σ H' ∧ Stq Z fp H Z' fp H' ∧ Ext H H' ∧ (∀ c, F c → (∃ j, fp j c) ∨ H c = none) ∧ HdD K Z' fp σ H' v (Pv.newH d) F := by
  cases n with
  | same h no =>
    refine ⟨Z, AS.no, R, .refl, .refl, fun _ z => z.elim, ?_⟩
    have e : Pv.newH d = .d d := by
      cases d with
      | lst xs => exact absurd rfl (no xs)
      | _ => rfl
    rw [e]
    exact .d h
  | @tup p xs ds h t =>
    refine ⟨_, AS.no, R.newZ h, .newZ h, .upd h, fun _ z => z.elim, .d (.tup (.inl upd_same) (.inr rfl) ?_)⟩
    exact t.mono (fun a o _ e => Ext.upd h a o e) fun _ z => .inl z
  | @lst p xs ds h t =>
    have t' : DenL K Z (upd H p (.lst xs)) xs ds := t.mono (fun a o _ e => Ext.upd h a o e) fun _ z => z
    refine ⟨Z, fun b => b = p ∨ AS.no b, R.ext (.upd h), .ext (.upd h), .upd h, fun c z => .inr (z.elim (fun e => by rw [e]; exact h) fun z => z.elim), .fr (.ol upd_same (DenSL.ofVals t') fun z => z) fun a z => ?_⟩
    have e : a = p := z.elim (fun q => q) fun q => q.elim
    subst e
    refine ⟨fun z => ?_, fun i z => ?_⟩
    · obtain ⟨o, q⟩ := R.trk _ z
      rw [h] at q; cases q
    · obtain ⟨o, q⟩ := R.own_trk z
      rw [h] at q; cases q
end

/-! ### the judgements -/
/-- what is wanted of an exception: its class's number, the slots, the heap -/
abbrev WE := Pv.Exc → L2.St → Hp → Prop
/-- how what a meaning gives (α) is borne by what the machine gives (β) -/
abbrev DDk (α β : Type) := AS → (Nat → AS) → L2.St → Hp → α → β → AS → Prop
/-- r's end: what is wanted of what it gives -/
def tEnd {α β : Type} (K : PySem.W.Frag) (W : WE) (dd : DDk α β) (r : Res α) (Z : AS) (fp : Nat → AS) (σ : L2.St) (H : Hp) (q : Bool) (Q : β → Hp → Prop) : Prop :=
  match r with
  | none => False
  | some (.ok a S') => ∀ b H' Z' fp' F, Rel K Z' fp' S' σ H' → Stq Z fp H Z' fp' H' → (q = true → Ext H H') → (∀ c, F c → (∃ j, fp j c) ∨ H c = none) → dd Z' fp' σ H' a b F → Q b H'
  | some (.exc x S') => ∀ H' Z' fp', Rel K Z' fp' S' σ H' → Stq Z fp H Z' fp' H' → W x σ H'
def tGen {α β : Type} (K : PySem.W.Frag) (W : WE) (dd : DDk α β) (f : Pv.St → Res α) (q : Bool) : L2.St → Hp → (β → Hp → Prop) → Prop := fun σ H Q => ∃ Z fp S, Rel K Z fp S σ H ∧ tEnd K W dd (f S) Z fp σ H q Q
def ddE (K : PySem.W.Frag) : DDk Hd V := fun Z fp σ H h v F => HdD K Z fp σ H v h F
def ddB : DDk Bool Bool := fun _ _ _ _ a b _ => b = a
/-- an expression by its meaning f; q: nothing that stood is changed -/
abbrev tOf (K : PySem.W.Frag) (W : WE) (f : Pv.St → Res Hd) (q : Bool) : TE := tGen K W (ddE K) f q
abbrev tOfB (K : PySem.W.Frag) (W : WE) (f : Pv.St → Res Bool) (q : Bool) : TT := tGen K W ddB f q
abbrev VE (X : Cx) (W : WE) (e : Expr) (f : Pv.St → Res Hd) (q : Bool) : Prop := PE X e (tOf X.K W f q)
abbrev VT (X : Cx) (W : WE) (e : Expr) (f : Pv.St → Res Bool) (q : Bool) : Prop := PT X e (tOfB X.K W f q)
theorem PE.imp {X : Cx} {e : Expr} {t t' : TE} (h : PE X e t) (i : ∀ σ H Q, t' σ H Q → t σ H Q) : PE X e t' := ⟨fun pins s σ H Q I x => h.run pins s σ H Q I (i σ H Q x)⟩
theorem PT.imp {X : Cx} {e : Expr} {t t' : TT} (h : PT X e t) (i : ∀ σ H Q, t' σ H Q → t σ H Q) : PT X e t' := ⟨fun pins s σ H Q I x => h.run pins s σ H Q I (i σ H Q x)⟩
theorem PW.imp {X : Cx} {e : Expr} {t t' : TT} (h : PW X e t) (i : ∀ σ H Q, t' σ H Q → t σ H Q) : PW X e t' := ⟨fun w pins s σ H Q I x => h.run w pins s σ H Q I (i σ H Q x)⟩
theorem PA.imp {X : Cx} {e : List Expr} {t t' : TA} (h : PA X e t) (i : ∀ σ H Q, t' σ H Q → t σ H Q) : PA X e t' := ⟨fun pos pins s σ H Q I x => h.run pos pins s σ H Q I (i σ H Q x)⟩
theorem PS.imp {X : Cx} {e : Stmt} {t t' : TS} (h : PS X e t) (i : ∀ D σ H, t' D σ H → t D σ H) : PS X e t' := ⟨fun pins s σ H D I x => h.run pins s σ H D I (i D σ H x)⟩
theorem PSs.imp {X : Cx} {e : List Stmt} {t t' : TS} (h : PSs X e t) (i : ∀ D σ H, t' D σ H → t D σ H) : PSs X e t' := ⟨fun pins s σ H D I x => h.run pins s σ H D I (i D σ H x)⟩
section
variable {α β γ δ : Type} {K : PySem.W.Frag} {W : WE} {Z Z' : AS} {fp fp' : Nat → AS} {S S' : Pv.St} {σ : L2.St} {H H' : Hp} {q qa : Bool} {dd : DDk α β} {de : DDk γ δ}
theorem tEnd.step {r : Res α} {Q : β → Hp → Prop} (e : tEnd K W dd r Z fp σ H q Q) (s : Stq Z fp H Z' fp' H') (x : q = true → Ext H H') : tEnd K W dd r Z' fp' σ H' q Q := by
  match r, e with
  | some (.ok a S1), e => exact fun b H1 Z1 fp1 F R1 s1 x1 nf d => e b H1 Z1 fp1 F R1 (s.trans s1) (fun z => (x z).trans (x1 z)) (fun c f => (nf c f).elim (fun ⟨j, z⟩ => s.newf j c z) fun z => .inr (s.there c z)) d
  | some (.exc a S1), e => exact fun H1 Z1 fp1 R1 s1 => e H1 Z1 fp1 R1 (s.trans s1)
/-- composition: a meaning that begins with r, to r's own end; Z0, fp0, H0: where the whole began -/
theorem tEnd.bind0 {Z0 : AS} {fp0 : Nat → AS} {H0 : Hp} {r : Res α} {k : α → Pv.St → Res γ} {w : Pv.Wit k} {Q : δ → Hp → Prop} {P : β → Hp → Prop} (s0 : Stq Z0 fp0 H0 Z fp H) (x0 : q = true → Ext H0 H) (e : tEnd K W de (Pv.rb r k w) Z0 fp0 σ H0 q Q) (hq : q = true → qa = true)
    (go : ∀ a S1, r = some (.ok a S1) → ∀ b H1 Z1 fp1 F, Rel K Z1 fp1 S1 σ H1 → dd Z1 fp1 σ H1 a b F → Stq Z fp H Z1 fp1 H1 → (qa = true → Ext H H1) → (∀ c, F c → (∃ j, fp j c) ∨ H c = none) →
      Stq Z0 fp0 H0 Z1 fp1 H1 → (q = true → Ext H0 H1) → (∀ c, F c → (∃ j, fp0 j c) ∨ H0 c = none) → tEnd K W de (k a S1) Z0 fp0 σ H0 q Q → P b H1) : tEnd K W dd r Z fp σ H qa P := by
  match r, e, go with
  | some (.ok a S1), e, go => exact fun b H1 Z1 fp1 F R1 s1 x1 nf d => go a S1 rfl b H1 Z1 fp1 F R1 d s1 x1 nf (s0.trans s1) (fun z => (x0 z).trans (x1 (hq z))) (fun c f => (nf c f).elim (fun ⟨j, z⟩ => s0.newf j c z) fun z => .inr (s0.there c z)) e
  | some (.exc a S1), e, _ => exact fun H1 Z1 fp1 R1 s1 => e H1 Z1 fp1 R1 (s0.trans s1)
theorem tEnd.bind {r : Res α} {k : α → Pv.St → Res γ} {w : Pv.Wit k} {Q : δ → Hp → Prop} {P : β → Hp → Prop} (e : tEnd K W de (Pv.rb r k w) Z fp σ H q Q) (hq : q = true → qa = true)
    (go : ∀ a S1, r = some (.ok a S1) → ∀ b H1 Z1 fp1 F, Rel K Z1 fp1 S1 σ H1 → dd Z1 fp1 σ H1 a b F → Stq Z fp H Z1 fp1 H1 → (qa = true → Ext H H1) → (∀ c, F c → (∃ j, fp j c) ∨ H c = none) → tEnd K W de (k a S1) Z1 fp1 σ H1 q Q → P b H1) : tEnd K W dd r Z fp σ H qa P :=
  tEnd.bind0 .refl (fun _ => .refl) e hq fun a S1 h b H1 Z1 fp1 F R1 d s1 x1 nf s2 x2 _ e2 => go a S1 h b H1 Z1 fp1 F R1 d s1 x1 nf (tEnd.step e2 s2 x2)
theorem tEnd.imp {r : Res α} {Q Q' : β → Hp → Prop} (e : tEnd K W dd r Z fp σ H q Q) (h : ∀ b H, Q b H → Q' b H) : tEnd K W dd r Z fp σ H q Q' := by
  match r, e with
  | some (.ok a S1), e => exact fun b H1 Z1 fp1 F R1 s1 x1 nf d => h _ _ (e b H1 Z1 fp1 F R1 s1 x1 nf d)
  | some (.exc a S1), e => exact e
theorem tEnd.weak {r : Res α} {Q : β → Hp → Prop} (e : tEnd K W dd r Z fp σ H q Q) (hq : q = true → qa = true) : tEnd K W dd r Z fp σ H qa Q := by
  match r, e with
  | some (.ok a S1), e => exact fun b H1 Z1 fp1 F R1 s1 x1 nf d => e b H1 Z1 fp1 F R1 s1 (fun z => x1 (hq z)) nf d
  | some (.exc a S1), e => exact e
/-- two operands, from the left -/
theorem two {f g : Pv.St → Res Hd} {k : Hd → Hd → Pv.St → Res γ} {k1 : Hd → Pv.St → Res γ} {w1 : Pv.Wit k1} {qb : Bool} {Q : δ → Hp → Prop} {P : V → V → Hp → Prop}
    (hk : ∀ x S1, k1 x S1 = Pv.rb (g S1) (fun y S2 => k x y S2) ⟨⟩) (st : ∀ S x S1, f S = some (.ok x S1) → stale x = true → qb = true)
    (h : tGen K W de (fun S => Pv.rb (f S) k1 w1) (qa && qb) σ H Q)
    (fin : ∀ hx hy S2 v u H2 Z2 fp2 F1 F2, Rel K Z2 fp2 S2 σ H2 → HdD K Z2 fp2 σ H2 v hx F1 → HdD K Z2 fp2 σ H2 u hy F2 → (∀ a, F1 a → ¬ F2 a) → tEnd K W de (k hx hy S2) Z2 fp2 σ H2 (qa && qb) Q → P v u H2) :
    tOf K W f qa σ H fun x H1 => tOf K W g qb σ H1 fun y H2 => P x y H2 := by
  obtain ⟨Z, fp, S, R, e⟩ := h
  refine ⟨Z, fp, S, R, tEnd.bind e (fun z => (Bool.and_eq_true_iff.mp z).1) fun hx S1 e1 v H1 Z1 fp1 F1 R1 d1 s1 x1 nf1 e2 => ?_⟩
  rw [hk] at e2
  refine ⟨Z1, fp1, S1, R1, tEnd.bind e2 (fun z => (Bool.and_eq_true_iff.mp z).2) fun hy S2 e3 u H2 Z2 fp2 F2 R2 d2 s2 x2 nf2 e4 => ?_⟩
  have d1 : HdD K Z1 fp1 σ H1 v hx F1 := d1
  refine fin hx hy S2 v u H2 Z2 fp2 F1 F2 R2 (d1.step R1 s2 fun z => x2 (st _ _ _ e1 z)) d2 (fun a f1 f2 => ?_) e4
  rcases nf2 a f2 with ⟨j, z⟩ | z
  · exact (d1.own a f1).2 j z
  · obtain ⟨o, e⟩ := d1.trk a f1
    rw [z] at e; cases e
end
end Ps
end

section
set_option Elab.async false
set_option linter.all false
set_option maxRecDepth 100000
set_option maxHeartbeats 4000000
/-! PvOps: the operations by values. -/
namespace Ps
open PySem PySem.Spec PyProof.Rows L2
open Pv (D SV Hd Stp Cxt Res Out Flow)

section
variable {X : Cx} {K : PySem.W.Frag} {Z : AS} {H : Hp}
theorem DenR.intOf {v : V} {i : Int} (h : DenR K Z H v (.int i)) : v = .int i := by
  cases h with
  | den d => cases d; rfl
theorem DenR.strOf {v : V} {s : Pv.Txt} (h : DenR K Z H v (.str s)) : v = .str (tx s) := by
  cases h with
  | den d => cases d; rfl
theorem DenR.blOf {v : V} {b : Bool} (h : DenR K Z H v (.bl b)) : v = .bl b := by
  cases h with
  | den d => cases d; rfl
theorem sizeOk_le {n : Nat} (h : Pv.sizeOk n = true) : n ≤ sizeLine := by
  have := of_decide_eq_true h
  rw [sizeLine_eq]
  exact this

/-- xs + ys, any lists -/
def rCatL (K : PySem.W.Frag) : R2 := fun x y H Q => ∃ l b xs zs, x = .ref l ∧ y = .ref b ∧ SqL K H l xs ∧ SqL K H b zs ∧ xs.length + zs.length ≤ sizeLine ∧ ∀ p, H p = none → Q (.ref p) (upd H p (.lst (xs ++ zs)))
theorem op_catL : OpR X (binaryOp .Add) (rCatL X.K) := by
  intro pins s σ H x y v u Q I rx ry h
  obtain ⟨l, b, xs, zs, rfl, rfl, hl, hb, hz, q⟩ := h
  cases rx
  cases ry
  obtain ⟨vs, r1, p1, _⟩ := I.list hl
  obtain ⟨ws, r2, p2, _⟩ := I.list hb
  obtain ⟨⟨cls, dd, data, sl⟩, ho, hc, n, hd⟩ := id p1.isList
  obtain ⟨⟨cls2, dd2, data2, sl2⟩, ho2, hc2, n2, hd2⟩ := id p2.isList
  simp only at hc hd hc2 hd2
  subst hc hd hc2 hd2
  have e : vs.toArray ++ ws.toArray = (vs ++ ws).toArray := by simp
  have hsz : vs.length + ws.length ≤ sizeLine := by rw [← r1.length, ← r2.length]; exact hz
  refine concat_meets ⟨_, ho, rfl⟩ ⟨_, ho2, rfl⟩ noFill_list_add seq_list_add PySem.F.slot_list_add PySem.F.entry_list_add (PySem.F.args_list_add_2 _ _) (list_addW l b vs.toArray ws.toArray n n2 dd dd2 sl sl2 (by simpa using hsz)) ⟨ho, ho2, ?_⟩
  rw [e]
  refine ⟨.ref s.heap.objs.size, _, I.laid (t' := s.toks) (o := .lst (xs ++ zs)) (fun b ob q => Heap.get?_push_of_some _ q) (Nat.le_refl _) ?_, rfl, q _ (I.hok.fresh (Nat.le_refl _))⟩
  exact ⟨by rw [List.length_append]; exact hz, vs ++ ws, 0, r1.append r2, Heap.get?_push_size _ rfl⟩

/-- // by any divisor -/
def CDivA (_ j : Int) : Prop := j ≠ 0 ∧ j.natAbs.log2 < 9000
theorem op_fdivA : OpR X (binaryOp .FloorDiv) (rI CDivA fun i j => .int (i.fdiv j)) := opI fun i j _ _ _ _ _ hc q => floordiv_int hc.1 q (.inl (PyProof.noPylong_of_log2 hc.2))

def bop : Pv.BOp → Operator
  | .add => .Add
  | .sub => .Sub
  | .mul => .Mult
  | .fdiv => .FloorDiv
  | .mod => .Mod
  | .pow => .Pow
def rBin (K : PySem.W.Frag) (o : Pv.BOp) : R2 := fun x y H Q => ∃ Z d1 d2 z, DenR K Z H x d1 ∧ DenR K Z H y d2 ∧ Pv.binD o d1 d2 = some z ∧ ∀ v H', NewD K Z H v z H' → Q v H'
theorem new_int {v : Int} : NewD K Z H (.int v) (.int v) H := .same (.int v) fun _ => nofun
theorem new_bl {v : Bool} : NewD K Z H (.bl v) (.bl v) H := .same (.bl v) fun _ => nofun
theorem new_str {s : Pv.Txt} : NewD K Z H (.str (tx s)) (.str s) H := .same (.str s) fun _ => nofun
theorem tx_append (a b : Pv.Txt) : (tx a : Str) ++ tx b = tx (a ++ b) := by
  show (⟨a.toArray ++ b.toArray⟩ : Str) = ⟨(a ++ b).toArray⟩
  simp
theorem tx_length (a : Pv.Txt) : (tx a : Str).length = a.length := by
  show (a.toArray).size = a.length
  simp
theorem op_bin (o : Pv.BOp) : OpR X (binaryOp (bop o)) (rBin X.K o) := by
  intro pins s σ H x y v u Q I rx ry h
  obtain ⟨Z, d1, d2, z, h1, h2, e, q⟩ := h
  unfold Pv.binD at e
  split at e
  · -- int + int
    cases e
    obtain rfl := h1.intOf
    obtain rfl := h2.intOf
    exact op_add pins s σ H _ _ v u Q I rx ry ⟨_, _, rfl, rfl, q _ _ new_int⟩
  · -- tuples
    rename_i xs ys
    split at e
    · rename_i hz
      cases e
      obtain ⟨a, vs, rfl, ha, ta⟩ := h1.tupOf
      obtain ⟨b, ws, rfl, hb, tb⟩ := h2.tupOf
      have hz' := sizeOk_le hz
      have l1 := ta.length
      have l2 := tb.length
      refine op_catA pins s σ H _ _ v u Q I rx ry ⟨a, b, vs, ws, rfl, rfl, ha, hb, by omega, fun ev => ?_, fun _ ew => ?_, fun _ _ p hp => q _ _ (.tup hp (ta.append tb))⟩
      · subst ev
        cases ta
        cases h2 with
        | den d => exact q _ _ (.same d fun _ => nofun)
      · subst ew
        cases tb
        rw [List.append_nil] at q
        cases h1 with
        | den d => exact q _ _ (.same d fun _ => nofun)
    · cases e
  · -- lists
    split at e
    · rename_i hz
      cases e
      obtain ⟨a, vs, rfl, ha, ta⟩ := h1.lstOf
      obtain ⟨b, ws, rfl, hb, tb⟩ := h2.lstOf
      have hz' := sizeOk_le hz
      have l1 := ta.length
      have l2 := tb.length
      exact op_catL pins s σ H _ _ v u Q I rx ry ⟨a, b, vs, ws, rfl, rfl, ha, hb, by omega, fun p hp => q _ _ (.lst hp (ta.append tb))⟩
    · cases e
  · -- texts
    split at e
    · rename_i hz
      cases e
      obtain rfl := h1.strOf
      obtain rfl := h2.strOf
      have hz' := sizeOk_le hz
      refine op_add_str pins s σ H _ _ v u Q I rx ry ⟨_, _, rfl, rfl, by rw [tx_length, tx_length]; exact hz', ?_⟩
      rw [tx_append]
      exact q _ _ new_str
    · cases e
  · cases e
    obtain rfl := h1.intOf
    obtain rfl := h2.intOf
    exact op_sub pins s σ H _ _ v u Q I rx ry ⟨_, _, rfl, rfl, q _ _ new_int⟩
  · split at e
    · rename_i hz
      cases e
      obtain rfl := h1.intOf
      obtain rfl := h2.intOf
      unfold Pv.mulOk at hz
      rw [Bool.or_eq_true, Bool.or_eq_true] at hz
      rcases hz with (hz | hz) | hz
      · have h := of_decide_eq_true hz
        exact op_mul pins s σ H _ _ v u Q I rx ry ⟨_, _, rfl, rfl, .inl (by omega), q _ _ new_int⟩
      · have h := of_decide_eq_true hz
        exact op_mul pins s σ H _ _ v u Q I rx ry ⟨_, _, rfl, rfl, .inr (by omega), q _ _ new_int⟩
      · exact op_mulW pins s σ H _ _ v u Q I rx ry ⟨_, _, rfl, rfl, (show CMulW _ _ from (of_decide_eq_true hz : Pv.bits _ + Pv.bits _ < 1000000)), q _ _ new_int⟩
    · cases e
  · split at e
    · rename_i hz
      cases e
      obtain rfl := h1.intOf
      obtain rfl := h2.intOf
      unfold Pv.divOk at hz
      rw [Bool.and_eq_true] at hz
      exact op_fdivA pins s σ H _ _ v u Q I rx ry ⟨_, _, rfl, rfl, ⟨of_decide_eq_true hz.1, of_decide_eq_true hz.2⟩, q _ _ new_int⟩
    · cases e
  · split at e
    · rename_i hz
      cases e
      obtain rfl := h1.intOf
      obtain rfl := h2.intOf
      exact op_modN pins s σ H _ _ v u Q I rx ry ⟨_, _, rfl, rfl, hz, q _ _ new_int⟩
    · cases e
  · split at e
    · rename_i hz
      cases e
      obtain rfl := h1.intOf
      obtain rfl := h2.intOf
      unfold Pv.powOk at hz
      rw [Bool.and_eq_true, Bool.and_eq_true] at hz
      exact op_pow pins s σ H _ _ v u Q I rx ry ⟨_, _, rfl, rfl, ⟨of_decide_eq_true hz.1.1, of_decide_eq_true hz.1.2, of_decide_eq_true hz.2⟩, q _ _ new_int⟩
    · cases e
  · cases e

/-! ### comparisons -/
theorem any_pyL {d : D} {n : Nat} (hd : Pv.fits d = true) : ∀ {ys : List D}, Pv.fitL ys n = true → ((toPyL ys).any fun z => PyData.eqv z (toPy d)) = ys.any fun z => Pv.eqv z d
  | [], _ => rfl
  | y :: ys, h => by
    simp only [Pv.fitL, Bool.and_eq_true] at h
    simp only [toPyL, List.any_cons]
    rw [eqv_py y d ⟨n, h.1⟩ ⟨_, hd⟩, any_pyL hd h.2]
theorem any_py {d : D} {ys : List D} (hd : Pv.fits d = true) (hy : Pv.fits (.lst ys) = true) : ((toPyL ys).any fun z => PyData.eqv z (toPy d)) = ys.any fun z => Pv.eqv z d :=
  any_pyL (n := 63) hd (by simpa only [Pv.fits, Pv.fit] using hy)
def cop : Pv.COp → CmpOp
  | .eq => .Eq
  | .ne => .NotEq
  | .lt => .Lt
  | .le => .LtE
  | .gt => .Gt
  | .ge => .GtE
  | .isn => .Is
  | .isnt => .IsNot
  | .mem => .In
  | .nmem => .NotIn
def A_depth (x y : D) : Nat := min (toPy x).depth (toPy y).depth
theorem A_depth_le {x y : D} (h : Pv.fits x = true) : A_depth x y ≤ 64 := by
  have := (fit_py x 64 h).2
  unfold A_depth
  omega
mutual
theorem alk_py : ∀ (x y : D) (n m : Nat), Pv.fit x n = true → Pv.fit y m = true → PySem.W.alike (toPy x) (toPy y) = Pv.alk x y
  | .non, y, n, m, _, hy => by cases y <;> simp [toPy, PySem.W.alike, Pv.alk] <;> simp [Pv.fit] at hy
  | .bl a, y, n, m, _, hy => by cases y <;> simp [toPy, PySem.W.alike, Pv.alk] <;> simp [Pv.fit] at hy
  | .int a, y, n, m, _, hy => by cases y <;> simp [toPy, PySem.W.alike, Pv.alk] <;> simp [Pv.fit] at hy
  | .str a, y, n, m, _, hy => by cases y <;> simp [toPy, PySem.W.alike, Pv.alk] <;> simp [Pv.fit] at hy
  | .tup xs, y, n, m, hx, hy => by
    cases n with
    | zero => simp [Pv.fit] at hx
    | succ n =>
      cases y with
      | tup ys =>
        cases m with
        | zero => simp [Pv.fit] at hy
        | succ m =>
          simp only [toPy, PySem.W.alike, Pv.alk]
          exact alkL_py xs ys n m (by simpa only [Pv.fit] using hx) (by simpa only [Pv.fit] using hy)
      | _ => simp [toPy, PySem.W.alike, Pv.alk] <;> simp [Pv.fit] at hy
  | .lst xs, y, n, m, hx, hy => by
    cases n with
    | zero => simp [Pv.fit] at hx
    | succ n =>
      cases y with
      | lst ys =>
        cases m with
        | zero => simp [Pv.fit] at hy
        | succ m =>
          simp only [toPy, PySem.W.alike, Pv.alk]
          exact alkL_py xs ys n m (by simpa only [Pv.fit] using hx) (by simpa only [Pv.fit] using hy)
      | _ => simp [toPy, PySem.W.alike, Pv.alk] <;> simp [Pv.fit] at hy
  | .dct _ _ _, _, n, _, hx, _ => by simp [Pv.fit] at hx
  | .obj _ _ _, _, n, _, hx, _ => by simp [Pv.fit] at hx
theorem alkL_py : ∀ (xs ys : List D) (n m : Nat), Pv.fitL xs n = true → Pv.fitL ys m = true → PySem.W.alikeAll (toPyL xs) (toPyL ys) = Pv.alkL xs ys
  | [], ys, n, m, _, _ => by simp [toPyL, PySem.W.alikeAll, Pv.alkL]
  | x :: xs, [], n, m, _, _ => by simp [toPyL, PySem.W.alikeAll, Pv.alkL]
  | x :: xs, y :: ys, n, m, hx, hy => by
    simp only [Pv.fitL, Bool.and_eq_true] at hx hy
    simp only [toPyL, PySem.W.alikeAll, Pv.alkL]
    rw [alk_py x y n m hx.1 hy.1, alkL_py xs ys n m hx.2 hy.2]
end
mutual
theorem ltd_py : ∀ (x y : D) (n m : Nat), Pv.fit x n = true → Pv.fit y m = true → Pv.alk x y = true → x ≠ .non → PySem.W.dataLt (toPy x) (toPy y) = Pv.ltd x y
  | .non, y, n, m, _, _, _, h => absurd rfl h
  | .bl a, y, n, m, _, _, hk, _ => by
    cases y with
    | bl b =>
      simp only [toPy, Pv.ltd]
      rw [PySem.W.dataLt_bool]
      cases a <;> cases b <;> decide
    | _ => simp [Pv.alk] at hk
  | .int a, y, n, m, _, _, hk, _ => by
    cases y with
    | int b =>
      simp only [toPy, Pv.ltd]
      exact PySem.W.dataLt_int a b
    | _ => simp [Pv.alk] at hk
  | .str a, y, n, m, _, _, hk, _ => by
    cases y with
    | str b =>
      simp only [toPy, Pv.ltd]
      rw [PySem.W.dataLt_str]
    | _ => simp [Pv.alk] at hk
  | .tup xs, y, n, m, hx, hy, hk, _ => by
    cases y with
    | tup ys =>
      cases n with
      | zero => simp [Pv.fit] at hx
      | succ n =>
        cases m with
        | zero => simp [Pv.fit] at hy
        | succ m =>
          simp only [toPy, Pv.ltd]
          rw [PySem.W.dataLt_tuple]
          exact ltdL_py xs ys n m (by simpa only [Pv.fit] using hx) (by simpa only [Pv.fit] using hy) (by simpa only [Pv.alk] using hk)
    | _ => simp [Pv.alk] at hk
  | .lst xs, y, n, m, hx, hy, hk, _ => by
    cases y with
    | lst ys =>
      cases n with
      | zero => simp [Pv.fit] at hx
      | succ n =>
        cases m with
        | zero => simp [Pv.fit] at hy
        | succ m =>
          simp only [toPy, Pv.ltd]
          rw [PySem.W.dataLt_list]
          exact ltdL_py xs ys n m (by simpa only [Pv.fit] using hx) (by simpa only [Pv.fit] using hy) (by simpa only [Pv.alk] using hk)
    | _ => simp [Pv.alk] at hk
  | .dct _ _ _, _, n, _, hx, _, _, _ => by simp [Pv.fit] at hx
  | .obj _ _ _, _, n, _, hx, _, _, _ => by simp [Pv.fit] at hx
theorem ltdL_py : ∀ (xs ys : List D) (n m : Nat), Pv.fitL xs n = true → Pv.fitL ys m = true → Pv.alkL xs ys = true → PyProof.Rows.lexLt PyProof.Rows.itemOrd (PySem.W.keyToksAll (toPyL xs)) (PySem.W.keyToksAll (toPyL ys)) = Pv.ltdL xs ys
  | [], [], n, m, _, _, _ => by decide
  | [], y :: ys, n, m, _, _, _ => by
    simp only [toPyL, Pv.ltdL, PySem.W.keyToksAll]
    rfl
  | x :: xs, [], n, m, _, _, _ => by
    simp only [toPyL, Pv.ltdL, PySem.W.keyToksAll]
    rfl
  | x :: xs, y :: ys, n, m, hx, hy, hk => by
    simp only [Pv.fitL, Bool.and_eq_true] at hx hy
    simp only [Pv.alkL, Bool.and_eq_true] at hk
    have ha : PySem.W.alike (toPy x) (toPy y) = true := by rw [alk_py x y n m hx.1 hy.1]; exact hk.1
    have he := eqv_py x y ⟨n, hx.1⟩ ⟨m, hy.1⟩
    simp only [toPyL, Pv.ltdL]
    by_cases q : Pv.eqv x y = true
    · rw [if_pos q, PySem.W.dataLt_all_yes ha (by rw [he]; exact q)]
      exact ltdL_py xs ys n m hx.2 hy.2 hk.2
    · have q' : Pv.eqv x y = false := by simpa using q
      have hne : x ≠ .non := fun z => by
        subst z
        exact PySem.W.ne_none_of ha (by rw [he]; exact q') rfl
      rw [if_neg q, PySem.W.dataLt_all_no ha (by rw [he]; exact q')]
      exact ltd_py x y n m hx.1 hy.1 hk.1 hne
end
def rCmp (K : PySem.W.Frag) (o : Pv.COp) : R2 := fun x y H Q => ∃ Z d1 d2 r, DenR K Z H x d1 ∧ DenR K Z H y d2 ∧ Pv.cmpD o d1 d2 = some r ∧ Q (.bl r) H
theorem op_cmp (o : Pv.COp) (hu : X.A.units + 65 < cLine) : OpR X (compareOp (cop o)) (rCmp X.K o) := by
  intro pins s σ H x y v u Q I rx ry h
  obtain ⟨Z, d1, d2, r, h1, h2, e, q⟩ := h
  unfold Pv.cmpD at e
  split at e
  · split at e
    · rename_i hf
      cases e
      rw [Bool.and_eq_true] at hf
      refine op_eqD (by omega) pins s σ H x y v u Q I rx ry ⟨toPy d1, toPy d2, h1.dp, h2.dp, fits_shaped hf.1, fits_shaped hf.2, ?_⟩
      rw [eqv_py d1 d2 ⟨_, hf.1⟩ ⟨_, hf.2⟩]
      exact q
    · cases e
  · split at e
    · rename_i hf
      cases e
      rw [Bool.and_eq_true] at hf
      refine op_neD (by omega) pins s σ H x y v u Q I rx ry ⟨toPy d1, toPy d2, h1.dp, h2.dp, fits_shaped hf.1, fits_shaped hf.2, ?_⟩
      rw [eqv_py d1 d2 ⟨_, hf.1⟩ ⟨_, hf.2⟩]
      exact q
    · cases e
  · cases e
    obtain rfl := h1.intOf
    obtain rfl := h2.intOf
    exact op_lt pins s σ H _ _ v u Q I rx ry ⟨_, _, rfl, rfl, q⟩
  · cases e
    obtain rfl := h1.intOf
    obtain rfl := h2.intOf
    exact op_le pins s σ H _ _ v u Q I rx ry ⟨_, _, rfl, rfl, q⟩
  · cases e
    obtain rfl := h1.intOf
    obtain rfl := h2.intOf
    exact op_gt pins s σ H _ _ v u Q I rx ry ⟨_, _, rfl, rfl, q⟩
  · cases e
    obtain rfl := h1.intOf
    obtain rfl := h2.intOf
    exact op_ge pins s σ H _ _ v u Q I rx ry ⟨_, _, rfl, rfl, q⟩
  · -- tuples in order
    rename_i xs ys
    split at e
    · rename_i hf
      cases e
      rw [Bool.and_eq_true, Bool.and_eq_true] at hf
      obtain ⟨as, r1⟩ := Dp.reads I _ _ v h1.dp rx
      obtain ⟨bs, r2⟩ := Dp.reads I _ _ u h2.dp ry
      have hk : Pv.alk (.tup xs) (.tup ys) = true := by simpa only [Pv.alk] using hf.2
      have ha : PySem.W.alike (toPy (.tup xs)) (toPy (.tup ys)) = true := by rw [alk_py _ _ 64 64 hf.1.1 hf.1.2]; exact hk
      have hd : A_depth (.tup xs) (.tup ys) ≤ 64 := A_depth_le hf.1.1
      have hl := ltd_py (.tup xs) (.tup ys) 64 64 hf.1.1 hf.1.2 hk nofun
      have q' : EP X pins σ Q (.bool (PySem.W.dataLt (toPy (.tup xs)) (toPy (.tup ys)))) s := by
        rw [hl]
        simp only [Pv.ltd]
        exact ⟨.bl _, H, I, rfl, q⟩
      exact PySem.W.rcLt_alike _ _ X.A s v u as bs r1 r2 ha (by simp [toPy]) (by unfold A_depth at hd; omega) X.prog X.w X.xe _ q'
    · cases e
  · split at e
    · rename_i ys hf
      cases e
      rw [Bool.and_eq_true] at hf
      have hd2 := h2.dp
      simp only [toPy] at hd2
      refine op_inD hu pins s σ H x y v u Q I rx ry ⟨toPy d1, toPyL ys, h1.dp, hd2, fits_shaped hf.1, by have := fits_shaped hf.2; simpa only [toPy] using this, ?_⟩
      rw [any_py hf.1 hf.2]
      exact q
    · cases e
  · split at e
    · rename_i ys hf
      cases e
      rw [Bool.and_eq_true] at hf
      have hd2 := h2.dp
      simp only [toPy] at hd2
      refine op_notInD hu pins s σ H x y v u Q I rx ry ⟨toPy d1, toPyL ys, h1.dp, hd2, fits_shaped hf.1, by have := fits_shaped hf.2; simpa only [toPy] using this, ?_⟩
      rw [any_py hf.1 hf.2]
      exact q
    · cases e
  · cases e
end
end Ps
end

section
set_option Elab.async false
set_option linter.all false
set_option maxRecDepth 100000
set_option maxHeartbeats 4000000
/-! PvE: the rules of expressions. -/
namespace Ps
open PySem PySem.Spec PyProof.Rows L2
open Pv (D SV Hd Stp Cxt Res Out Flow)

section
variable {X : Cx} {W : WE} {a b c e : Expr} {f g k : Pv.St → Res Hd} {q qa qb qc : Bool} {pos : Pos}

/-- what comes out at once, nothing changed -/
theorem tGen.now {α β : Type} {K : PySem.W.Frag} {dd : DDk α β} {f : Pv.St → Res α} {q : Bool} {σ : L2.St} {H : Hp} {Q : β → Hp → Prop} (h : tGen K W dd f q σ H Q)
    (go : ∀ Z fp S, Rel K Z fp S σ H → ∀ r, f S = some r → tEnd K W dd (some r) Z fp σ H q Q → ∃ a b F, r = .ok a S ∧ (∀ c, F c → (∃ j, fp j c) ∨ H c = none) ∧ dd Z fp σ H a b F) : ∃ b, Q b H := by
  obtain ⟨Z, fp, S, R, e⟩ := h
  cases q' : f S with
  | none => rw [q'] at e; exact e.elim
  | some r =>
    rw [q'] at e
    obtain ⟨a, b, F, rfl, nf, d⟩ := go Z fp S R r q' e
    exact ⟨b, e b H Z fp F R .refl (fun _ => .refl) nf d⟩

theorem no_new {fp : Nat → AS} {H : Hp} : ∀ c, AS.no c → (∃ j, fp j c) ∨ H c = none := fun _ z => z.elim

theorem ve_var {i : Nat} {x : Str} {C : Cxt} (hN : X.N[i]? = some x) (hv : Vis X.env.scope x) (hd : (x == ("__debug__" : Str)) = false) (hcd : (x == ("__classdict__" : Str)) = false) :
    VE X W (.Name x pos) (fun S => Pv.ev C (.var i) S) true := by
  refine PE.imp (pe_var hN hv hd hcd) fun σ H Q h => ?_
  obtain ⟨Z, fp, S, R, e⟩ := h
  simp only [Pv.ev] at e
  cases q : Pv.sGet S i with
  | none => rw [q] at e; exact e.elim
  | some o =>
    rw [q] at e
    obtain ⟨v, e1, d⟩ := R.slot i o q
    refine ⟨v, e1, ?_⟩
    cases o with
    | val d' => exact e v H Z fp AS.no R .refl (fun _ => .refl) no_new (.d d.valOf.1)
    | ol _ => exact e v H Z fp AS.no R .refl (fun _ => .refl) no_new (.at_ e1 .nil)
    | od _ _ _ => cases d
    | oi _ _ _ => cases d
/-- a constant -/
theorem ve_cst {d : D} {v : V} (h : PE X e (tC v)) (hd : ∀ Z H, Den X.K Z H v d) : VE X W e (fun S => some (.ok (.d d) S)) true := by
  refine PE.imp h fun σ H Q h => ?_
  obtain ⟨Z, fp, S, R, e⟩ := h
  exact e v H Z fp AS.no R .refl (fun _ => .refl) no_new (.d (hd Z H))

/-- the end behind an operation on data -/
theorem tEnd.newD {K : PySem.W.Frag} {Z : AS} {fp : Nat → AS} {S : Pv.St} {σ : L2.St} {H : Hp} {z : D} {Q : VK} (R : Rel K Z fp S σ H) (e : tEnd K W (ddE K) (some (.ok (Pv.newH z) S)) Z fp σ H q Q) : ∀ v H', NewD K Z H v z H' → Q v H' := fun v H' n => by
  obtain ⟨Z', F, R', s, x, nf, d⟩ := n.hd R
  exact e v H' Z' fp F R' s (fun _ => x) nf d

theorem ve_bin {o : Pv.BOp} (ha : VE X W a f qa) (hb : VE X W b g qb) (st : ∀ S x S1, f S = some (.ok x S1) → stale x = true → qb = true) :
    VE X W (.BinOp a (bop o) b pos) (fun S => Pv.rb (f S) (fun x S1 => Pv.rb (g S1) (fun y S2 => Pv.lf (Pv.binH o x y S2) S2) ⟨⟩) ⟨⟩) (qa && qb) := by
  refine PE.imp (pe_op (op_bin o) ha hb) fun σ H Q h => ?_
  refine two (k := fun x y S2 => Pv.lf (Pv.binH o x y S2) S2) (fun _ _ => rfl) st h fun hx hy S2 v u H2 Z2 fp2 F1 F2 R2 d1 d2 _ e => ?_
  unfold Pv.binH at e
  cases q1 : Pv.peek hx S2 with
  | none => rw [q1] at e; exact e.elim
  | some x =>
    cases q2 : Pv.peek hy S2 with
    | none => rw [q1, q2] at e; exact e.elim
    | some y =>
      rw [q1, q2] at e
      simp only at e
      cases q3 : Pv.binD o x y with
      | none => rw [q3] at e; exact e.elim
      | some z =>
        rw [q3] at e
        exact ⟨Z2, x, y, z, d1.peek R2 q1, d2.peek R2 q2, q3, tEnd.newD R2 e⟩
theorem ve_neg (ha : VE X W a f qa) : VE X W (.UnaryOp .USub a pos) (fun S => Pv.rb (f S) (fun x S1 => (match x with | .d (.int i) => some (.ok (.d (.int (-i))) S1) | _ => none)) ⟨⟩) qa := by
  refine PE.imp (pe_un un_neg ha) fun σ H Q h => ?_
  obtain ⟨Z, fp, S, R, e⟩ := h
  refine ⟨Z, fp, S, R, tEnd.bind e (fun z => z) fun hx S1 e1 v H1 Z1 fp1 F1 R1 d1 s1 x1 nf1 e2 => ?_⟩
  split at e2
  · rename_i i
    obtain rfl := d1.dOf.1.intOf
    exact ⟨i, rfl, e2 _ H1 Z1 fp1 AS.no R1 .refl (fun _ => .refl) no_new (.d (.int _))⟩
  · exact e2.elim

end
end Ps
end

section
set_option Elab.async false
set_option linter.all false
set_option maxRecDepth 100000
set_option maxHeartbeats 4000000
/-! PvE2: comparisons, tests, displays. -/
namespace Ps
open PySem PySem.Spec PyProof.Rows L2
open Pv (D SV Hd Stp Cxt Res Out Flow)

section
variable {K : PySem.W.Frag} {Z Z' : AS} {fp fp' : Nat → AS} {S S' : Pv.St} {σ : L2.St} {H H' : Hp}
theorem DenS.isNon {v : V} {o : SV} {F : AS} (d : DenS K Z H v o F) : decide (v = .non) = Pv.isNonV o := by
  cases d with
  | val d =>
    cases d <;> rfl
  | ol _ _ _ => rfl
/-! ### a part of an owned object -/
/-- one of the items; it may be changed while the others are kept -/
theorem DenSL.focus : ∀ {vs : List V} {os : List SV} {F : AS} {k : Nat} {v : V} {o : SV}, DenSL K Z H vs os F → vs[k]? = some v → os[k]? = some o →
    ∃ G R : AS, DenS K Z H v o G ∧ (∀ a, F a ↔ G a ∨ R a) ∧ (∀ a, G a → ¬ R a) ∧
      ∀ (Z' : AS) (H' : Hp) (o' : SV) (G' : AS), (∀ a u, Z a → H a = some u → H' a = some u) → (∀ a, Z a → Z' a) → (∀ a u, R a → H a = some u → H' a = some u) → DenS K Z' H' v o' G' → (∀ a, G' a → ¬ R a) →
        ∃ F', DenSL K Z' H' vs (os.set k o') F' ∧ ∀ a, F' a ↔ G' a ∨ R a
  | _, _, _, _, _, _, .nil, e, _ => by simp at e
  | _, _, _, 0, _, _, .cons (F := F1) (G := F2) x y n, e1, e2 => by
    simp only [List.getElem?_cons_zero, Option.some.injEq] at e1 e2
    subst e1 e2
    exact ⟨F1, F2, x, fun _ => Iff.rfl, n, fun Z' H' o' G' kz mz kr d dj => ⟨_, .cons d (y.mono kz mz kr) dj, fun _ => Iff.rfl⟩⟩
  | _, _, _, k + 1, _, _, .cons (F := F1) (G := F2) x y n, e1, e2 => by
    obtain ⟨G, R, d, ef, dj, go⟩ := DenSL.focus y (by simpa using e1) (by simpa using e2)
    refine ⟨G, fun a => F1 a ∨ R a, d, fun a => ?_, fun a g r => ?_, fun Z' H' o' G' kz mz kr d' dj' => ?_⟩
    · constructor
      · rintro (h | h)
        · exact .inr (.inl h)
        · exact ((ef a).mp h).elim .inl fun h => .inr (.inr h)
      · rintro (h | h | h)
        · exact .inr ((ef a).mpr (.inl h))
        · exact .inl h
        · exact .inr ((ef a).mpr (.inr h))
    · rcases r with r | r
      · exact n a r ((ef a).mpr (.inl g))
      · exact dj a g r
    · obtain ⟨F', t', ef'⟩ := go Z' H' o' G' kz mz (fun a u r => kr a u (.inr r)) d' fun a g r => dj' a g (.inr r)
      refine ⟨_, .cons (x.mono kz mz fun a u f => kr a u (.inl f)) t' fun a f g => ?_, fun a => ?_⟩
      · rcases (ef' a).mp g with g | g
        · exact dj' a g (.inl f)
        · exact n a f ((ef a).mpr (.inr g))
      · constructor
        · rintro (h | h)
          · exact .inr (.inl h)
          · exact ((ef' a).mp h).elim .inl fun h => .inr (.inr h)
        · rintro (h | h | h)
          · exact .inr ((ef' a).mpr (.inl h))
          · exact .inl h
          · exact .inr ((ef' a).mpr (.inr h))
/-- what stands at a path; it may be changed while the rest is kept -/
theorem DenS.focus : ∀ {p : List Stp} {v w : V} {o q : SV} {F : AS}, DenS K Z H v o F → Pv.getP o p = some q → PathV H v p w →
    ∃ G R : AS, DenS K Z H w q G ∧ (∀ a, F a ↔ G a ∨ R a) ∧ (∀ a, G a → ¬ R a) ∧
      ∀ (Z' : AS) (H' : Hp) (q' o' : SV) (G' : AS), (∀ a u, Z a → H a = some u → H' a = some u) → (∀ a, Z a → Z' a) → (∀ a u, R a → H a = some u → H' a = some u) → DenS K Z' H' w q' G' → (∀ a, G' a → ¬ R a) → Pv.setP o p q' = some o' →
        ∃ F', DenS K Z' H' v o' F' ∧ ∀ a, F' a ↔ G' a ∨ R a
  | [], _, _, _, _, F, d, e, .nil => by
    simp only [Pv.getP, Option.some.injEq] at e
    subst e
    refine ⟨F, AS.no, d, fun a => ⟨.inl, fun h => h.elim (fun z => z) fun z => z.elim⟩, fun _ _ z => z, fun Z' H' q' o' G' _ _ _ d' _ e' => ?_⟩
    simp only [Pv.setP, Option.some.injEq] at e'
    subst e'
    exact ⟨G', d', fun a => ⟨.inl, fun h => h.elim (fun z => z) fun z => z.elim⟩⟩
  | .ix k :: p, .ref a0, w, _, q, F, d, e, .ix (xs := xs) (u := u) e1 e2 t => by
    cases d with
    | val d => simp [Pv.getP] at e
    | @ol _ xs' os F e3 l n =>
      rw [e1] at e3
      cases e3
      simp only [Pv.getP] at e
      cases h1 : os[k]? with
      | none => rw [h1] at e; cases e
      | some o1 =>
        rw [h1] at e
        simp only at e
        obtain ⟨G1, R1, d1, ef1, dj1, go1⟩ := l.focus e2 h1
        obtain ⟨G2, R2, d2, ef2, dj2, go2⟩ := d1.focus e t
        refine ⟨G2, fun b => b = a0 ∨ R1 b ∨ R2 b, d2, fun b => ?_, fun b g r => ?_, fun Z' H' q' o' G' kz mz kr d' dj' e' => ?_⟩
        · constructor
          · rintro (h | h)
            · exact .inr (.inl h)
            · rcases (ef1 b).mp h with h | h
              · exact ((ef2 b).mp h).elim .inl fun h => .inr (.inr (.inr h))
              · exact .inr (.inr (.inl h))
          · rintro (h | h | h | h)
            · exact .inr ((ef1 b).mpr (.inl ((ef2 b).mpr (.inl h))))
            · exact .inl h
            · exact .inr ((ef1 b).mpr (.inr h))
            · exact .inr ((ef1 b).mpr (.inl ((ef2 b).mpr (.inr h))))
        · rcases r with r | r | r
          · subst r
            exact n ((ef1 _).mpr (.inl ((ef2 _).mpr (.inl g))))
          · exact dj1 b ((ef2 b).mpr (.inl g)) r
          · exact dj2 b g r
        · simp only [Pv.setP] at e'
          rw [h1] at e'
          simp only at e'
          cases h2 : Pv.setP o1 p q' with
          | none => rw [h2] at e'; cases e'
          | some o2 =>
            rw [h2] at e'
            simp only [Option.some.injEq] at e'
            subst e'
            obtain ⟨F2, df2, ff2⟩ := go2 Z' H' q' o2 G' kz mz (fun b x r => kr b x (.inr (.inr r))) d' (fun b g r => dj' b g (.inr (.inr r))) h2
            obtain ⟨F1, df1, ff1⟩ := go1 Z' H' o2 F2 kz mz (fun b x r => kr b x (.inr (.inl r))) df2 fun b g r => by
              rcases (ff2 b).mp g with g | g
              · exact dj' b g (.inr (.inl r))
              · exact dj1 b ((ef2 b).mpr (.inr g)) r
            refine ⟨_, .ol (kr a0 _ (.inl rfl) e1) df1 fun z => ?_, fun b => ?_⟩
            · rcases (ff1 a0).mp z with z | z
              · rcases (ff2 a0).mp z with z | z
                · exact dj' a0 z (.inl rfl)
                · exact n ((ef1 a0).mpr (.inl ((ef2 a0).mpr (.inr z))))
              · exact n ((ef1 a0).mpr (.inr z))
            · constructor
              · rintro (h | h)
                · exact .inr (.inl h)
                · rcases (ff1 b).mp h with h | h
                  · exact ((ff2 b).mp h).elim .inl fun h => .inr (.inr (.inr h))
                  · exact .inr (.inr (.inl h))
              · rintro (h | h | h | h)
                · exact .inr ((ff1 b).mpr (.inl ((ff2 b).mpr (.inl h))))
                · exact .inl h
                · exact .inr ((ff1 b).mpr (.inr h))
                · exact .inr ((ff1 b).mpr (.inl ((ff2 b).mpr (.inr h))))

/-- slot i's object is another one, or the same one changed -/
theorem Rel.setAt (R : Rel K Z fp S σ H) {i : Nat} {v : V} {o' : SV} {F' : AS} (hi : i < S.length) (e : σ[i]? = some (some v)) (kz : ∀ a u, Z a → H a = some u → H' a = some u) (mz : ∀ a, Z a → Z' a) (d : DenS K Z' H' v o' F')
    (ko : ∀ j a u, j ≠ i → fp j a → H a = some u → H' a = some u) (nf : ∀ a, F' a → fp i a ∨ H a = none) (dz : ∀ a, F' a → ¬ Z' a) (nz : ∀ a, Z' a → Z a ∨ fp i a ∨ H a = none) (tz : ∀ a, Z' a → ∃ u, H' a = some u) :
    Rel K Z' (fun j => if j = i then F' else fp j) (S.set i (some o')) σ H' := by
  refine ⟨by rw [List.length_set]; exact R.len, fun j o1 e1 => ?_, fun j e1 a => ?_, fun j l a f g => ?_, fun j a f z => ?_, tz⟩
  · rw [sGet_set] at e1
    by_cases h : j = i
    · subst h
      rw [if_pos ⟨rfl, hi⟩, Option.some.injEq] at e1
      subst e1
      exact ⟨v, e, by rw [if_pos rfl]; exact d⟩
    · rw [if_neg (fun z => h z.1.symm)] at e1
      obtain ⟨v1, e2, d1⟩ := R.slot j o1 e1
      exact ⟨v1, e2, by rw [if_neg h]; exact d1.mono kz mz fun a u f => ko j a u h f⟩
  · rw [sGet_set] at e1
    by_cases h : j = i
    · subst h
      rw [if_pos ⟨rfl, hi⟩] at e1
      cases e1
    · rw [if_neg (fun z => h z.1.symm)] at e1
      rw [if_neg h]
      exact R.unset j e1 a
  · have key : ∀ j l, j ≠ i → (if j = i then F' else fp j) a → (if l = i then F' else fp l) a → l = i → False := fun j l hj f g hl => by
      rw [if_neg hj] at f
      rw [if_pos hl] at g
      rcases nf a g with z | z
      · exact hj (R.apart j i a f z)
      · obtain ⟨u, q⟩ := R.own_trk f
        rw [z] at q; cases q
    by_cases hj : j = i
    · by_cases hl : l = i
      · rw [hj, hl]
      · exact (key l j hl g f hj).elim
    · by_cases hl : l = i
      · exact (key j l hj f g hl).elim
      · rw [if_neg hj] at f
        rw [if_neg hl] at g
        exact R.apart j l a f g
  · by_cases hj : j = i
    · rw [if_pos hj] at f
      exact dz a f z
    · rw [if_neg hj] at f
      rcases nz a z with z | z | z
      · exact R.dis j a f z
      · exact hj (R.apart j i a f z)
      · obtain ⟨u, q⟩ := R.own_trk f
        rw [z] at q; cases q
theorem Stq.setAt {i : Nat} {F' : AS} (mz : ∀ a, Z a → Z' a) (nz : ∀ a, Z' a → Z a ∨ fp i a ∨ H a = none) (nf : ∀ a, F' a → fp i a ∨ H a = none) (kp : ∀ a u, H a = some u → (∀ j, ¬ fp j a) → H' a = some u) (th : ∀ a, H' a = none → H a = none) :
    Stq Z fp H Z' (fun j => if j = i then F' else fp j) H' where
  mono := mz
  newz := fun a z => (nz a z).elim .inl fun z => .inr (z.elim (fun z => .inl ⟨i, z⟩) .inr)
  newf := fun j a f => by
    by_cases h : j = i
    · rw [if_pos h] at f
      exact (nf a f).elim (fun z => .inl ⟨i, z⟩) .inr
    · rw [if_neg h] at f
      exact .inl ⟨j, f⟩
  keep := kp
  there := th

/-! ### escapes -/
theorem look_at {i : Nat} {p : List Stp} {q : SV} (e : Pv.look (.at_ i p) S = some q) : ∃ o, Pv.sGet S i = some o ∧ Pv.getP o p = some q := by
  simp only [Pv.look] at e
  cases h : Pv.sGet S i with
  | none => rw [h] at e; cases e
  | some o => rw [h] at e; exact ⟨o, rfl, e⟩
theorem put_at {i : Nat} {p : List Stp} {q : SV} {o : SV} (h : Pv.sGet S i = some o) (e : Pv.put i p q S = some S') : ∃ o', Pv.setP o p q = some o' ∧ S' = S.set i (some o') := by
  simp only [Pv.put, h] at e
  cases h2 : Pv.setP o p q with
  | none => rw [h2] at e; cases e
  | some o' =>
    rw [h2] at e
    exact ⟨o', rfl, (Option.some.inj e).symm⟩
/-- an escape; Z0, fp0, H0: where the whole began -/
theorem esc_ok {Z0 : AS} {fp0 : Nat → AS} {H0 : Hp} (R : Rel K Z fp S σ H) {v : V} {h : Hd} {F : AS} {d : D} (x : HdD K Z fp σ H v h F) (s0 : Stq Z0 fp0 H0 Z fp H) (nf : ∀ c, F c → (∃ j, fp0 j c) ∨ H0 c = none) (e : Pv.esc h S = some (.ok d S')) :
    ∃ Z' fp', Rel K Z' fp' S' σ H ∧ Stq Z0 fp0 H0 Z' fp' H ∧ Den K Z' H v d ∧ (∀ a, Z a → Z' a) ∧ (∀ a, Z' a → Z a ∨ F a ∨ ∃ i, fp i a) ∧ ∀ i a, fp' i a → fp i a := by
  cases x with
  | d d' =>
    simp only [Pv.esc, Option.some.injEq, Out.ok.injEq] at e
    obtain ⟨rfl, rfl⟩ := e
    exact ⟨Z, fp, R, s0, d', fun _ z => z, fun a z => .inl z, fun _ _ f => f⟩
  | fr d' n =>
    simp only [Pv.esc, Option.some.injEq, Out.ok.injEq] at e
    obtain ⟨rfl, rfl⟩ := e
    have tr := d'.trk
    refine ⟨fun a => Z a ∨ F a, fp, ?_, ?_, d'.frz, fun _ z => .inl z, fun a z => z.elim .inl fun z => .inr (.inl z), fun _ _ f => f⟩
    · exact ⟨R.len, fun i o e => let ⟨v, e1, d⟩ := R.slot i o e; ⟨v, e1, d.mono (fun _ _ _ q => q) (fun _ z => .inl z) fun _ _ _ q => q⟩, R.unset, R.apart, fun i a f z => z.elim (R.dis i a f) fun z => (n a z).2 i f, fun a z => z.elim (R.trk a) (tr a)⟩
    · exact ⟨fun a z => .inl (s0.mono a z), fun a z => z.elim (s0.newz a) fun z => .inr (nf a z), s0.newf, s0.keep, s0.there⟩
  | at_ e1 pv =>
    rename_i i p r
    simp only [Pv.esc] at e
    cases h1 : Pv.look (.at_ i p) S with
    | none => rw [h1] at e; cases e
    | some q =>
      rw [h1] at e
      simp only at e
      cases h2 : Pv.put i p (.val (Pv.fz q)) S with
      | none => rw [h2] at e; cases e
      | some S2 =>
        rw [h2] at e
        simp only [Option.some.injEq, Out.ok.injEq] at e
        obtain ⟨rfl, rfl⟩ := e
        obtain ⟨o, ho, hq⟩ := look_at h1
        obtain ⟨o', ho', rfl⟩ := put_at ho h2
        obtain ⟨v', e2, dS⟩ := R.slot i o ho
        rw [e1] at e2
        cases e2
        obtain ⟨G, Rr, dG, eF, dj, go⟩ := dS.focus hq pv
        have dz : Den K (fun a => Z a ∨ G a) H v (Pv.fz q) := dG.frz
        obtain ⟨F', dF', eF'⟩ := go (fun a => Z a ∨ G a) H _ o' AS.no (fun _ _ _ q => q) (fun _ z => .inl z) (fun _ _ _ q => q) (.val dz) (fun _ z => z.elim) ho'
        have fG : ∀ a, G a → fp i a := fun a z => (eF a).mpr (.inl z)
        have fF : ∀ a, F' a → fp i a ∧ ¬ G a := fun a z => ((eF' a).mp z).elim (fun z => z.elim) fun z => ⟨(eF a).mpr (.inr z), fun g => dj a g z⟩
        have nz : ∀ a, Z a ∨ G a → Z a ∨ fp i a ∨ H a = none := fun a z => z.elim .inl fun z => .inr (.inl (fG a z))
        have st : Stq Z fp H (fun a => Z a ∨ G a) (fun j => if j = i then F' else fp j) H := Stq.setAt (fun _ z => .inl z) nz (fun a z => .inl (fF a z).1) (fun _ _ e _ => e) fun _ e => e
        refine ⟨fun a => Z a ∨ G a, fun j => if j = i then F' else fp j, ?_, s0.trans st, dz, fun _ z => .inl z, fun a z => z.elim .inl fun z => .inr (.inr ⟨i, fG a z⟩), fun j a f => ?_⟩
        · exact R.setAt (sGet_lt ho) e1 (fun _ _ _ q => q) (fun _ z => .inl z) dF' (fun _ _ _ _ _ q => q) (fun a z => .inl (fF a z).1) (fun a f z => z.elim (fun z => R.dis i a (fF a f).1 z) (fF a f).2) nz fun a z => z.elim (R.trk a) fun z => R.own_trk (fG a z)
        · have f : (if j = i then F' else fp j) a := f
          by_cases hj : j = i
          · rw [if_pos hj] at f
            rw [hj]
            exact (fF a f).1
          · rw [if_neg hj] at f
            exact f
/-- an escape leaves another new object's own alone -/
theorem own_esc {F G : AS} {Z' : AS} {fp' : Nat → AS} (n : ∀ a, G a → ¬ Z a ∧ ∀ i, ¬ fp i a) (dj : ∀ a, G a → ¬ F a) (nz : ∀ a, Z' a → Z a ∨ F a ∨ ∃ i, fp i a) (nf : ∀ i a, fp' i a → fp i a) : ∀ a, G a → ¬ Z' a ∧ ∀ i, ¬ fp' i a := fun a g =>
  ⟨fun z => by
    rcases nz a z with z | z | ⟨i, z⟩
    · exact (n a g).1 z
    · exact dj a g z
    · exact (n a g).2 i z, fun i z => (n a g).2 i (nf i a z)⟩
end

section
variable {X : Cx} {W : WE} {a b c e : Expr} {f g k : Pv.St → Res Hd} {q qa qb qc : Bool} {pos : Pos}
theorem rb_some {α β : Type} {r : Res α} {f : α → Pv.St → Res β} {w : Pv.Wit f} {o : β} {S : Pv.St} (h : Pv.rb r f w = some (.ok o S)) : ∃ a S1, r = some (.ok a S1) ∧ f a S1 = some (.ok o S) := by
  match r, h with
  | some (.ok a S1), h => exact ⟨a, S1, rfl, h⟩
  | some (.exc x S1), h => exact absurd h (by simp [Pv.rb])
/-! ### comparisons -/
theorem cmpH_no {x y : Hd} {S : Pv.St} {o : Pv.COp} (h1 : o ≠ .isn) (h2 : o ≠ .isnt) (h3 : o ≠ .mem) (h4 : o ≠ .nmem) : Pv.cmpH o x y S = (match Pv.peek x S, Pv.peek y S with | some x, some y => Pv.cmpD o x y | _, _ => none) := by
  cases o <;> first | rfl | exact absurd rfl h1 | exact absurd rfl h2 | exact absurd rfl h3 | exact absurd rfl h4
/-- a comparison of two handles, by values -/
def rCmpH (K : PySem.W.Frag) (o : Pv.COp) : R2 := fun x y H Q => ∃ Z fp σ S hx hy F1 F2 r, Rel K Z fp S σ H ∧ HdD K Z fp σ H x hx F1 ∧ HdD K Z fp σ H y hy F2 ∧ Pv.cmpH o hx hy S = some r ∧ Q (.bl r) H
theorem op_cmpH (o : Pv.COp) (hu : X.A.units + 65 < cLine) : OpR X (compareOp (cop o)) (rCmpH X.K o) := by
  intro pins s σ H x y v u Q I rx ry h
  obtain ⟨Z, fp, σ', S, hx, hy, F1, F2, r, R, d1, d2, e, q⟩ := h
  have plain : ∀ o', Pv.cmpH o hx hy S = (match Pv.peek hx S, Pv.peek hy S with | some x, some y => Pv.cmpD o' x y | _, _ => none) → compareOp (cop o) = compareOp (cop o') → wpAny (model X.prog X.w) X.A (compareOp (cop o) v u) (EP X pins σ Q) X.xe s := by
    intro o' eo ec
    rw [eo] at e
    cases q1 : Pv.peek hx S with
    | none => rw [q1] at e; cases e
    | some dx =>
      cases q2 : Pv.peek hy S with
      | none => rw [q1, q2] at e; cases e
      | some dy =>
        rw [q1, q2] at e
        rw [ec]
        exact op_cmp o' hu pins s σ H x y v u Q I rx ry ⟨Z, dx, dy, r, d1.peek R q1, d2.peek R q2, e, q⟩
  have isn : ∀ r', (match hy with | .d .non => Pv.isNon hx S | _ => none) = some r' → y = .non ∧ decide (x = .non) = r' := by
    intro r' e
    split at e
    · obtain ⟨d2', _⟩ := d2.dOf
      obtain rfl := d2'.nonOf
      unfold Pv.isNon at e
      cases q1 : Pv.look hx S with
      | none => rw [q1] at e; cases e
      | some w =>
        rw [q1] at e
        obtain ⟨G, dS, _⟩ := d1.look R q1
        exact ⟨rfl, dS.isNon.trans (Option.some.inj e)⟩
    · cases e
  cases o with
  | isn =>
    obtain ⟨h1, h2⟩ := isn r e
    exact op_isN pins s σ H x y v u Q I rx ry ⟨h1, by rw [h2]; exact q⟩
  | isnt =>
    simp only [Pv.cmpH] at e
    have e' : ∃ r', (match hy with | .d .non => Pv.isNon hx S | _ => none) = some r' ∧ r = !r' := by
      split at e
      · cases q1 : Pv.isNon hx S with
        | none => rw [q1] at e; cases e
        | some r' => rw [q1] at e; exact ⟨r', rfl, (Option.some.inj e).symm⟩
      · cases e
    obtain ⟨r', e1, rfl⟩ := e'
    obtain ⟨h1, h2⟩ := isn r' e1
    exact op_notN pins s σ H x y v u Q I rx ry ⟨h1, by rw [h2]; exact q⟩
  | mem =>
    simp only [Pv.cmpH] at e
    cases q1 : Pv.peek hx S with
    | none => rw [q1] at e; cases e
    | some dx =>
      cases q2 : Pv.look hy S with
      | none => rw [q1, q2] at e; cases e
      | some w =>
        rw [q1, q2] at e
        obtain ⟨G, dS, _⟩ := d2.look R q2
        have hk : Pv.dKeys w = none := by
          cases dS with
          | val d => cases d <;> rfl
          | ol _ _ _ => rfl
        simp only [Pv.memV, hk] at e
        cases q3 : Pv.peekV w with
        | none => rw [q3] at e; cases e
        | some dy =>
          rw [q3] at e
          exact op_cmp .mem hu pins s σ H x y v u Q I rx ry ⟨Z, dx, dy, r, d1.peek R q1, dS.peek q3, e, q⟩
  | nmem =>
    simp only [Pv.cmpH] at e
    cases q1 : Pv.peek hx S with
    | none => rw [q1] at e; cases e
    | some dx =>
      cases q2 : Pv.look hy S with
      | none => rw [q1, q2] at e; cases e
      | some w =>
        rw [q1, q2] at e
        obtain ⟨G, dS, _⟩ := d2.look R q2
        have hk : Pv.dKeys w = none := by
          cases dS with
          | val d => cases d <;> rfl
          | ol _ _ _ => rfl
        simp only [Pv.memV, hk] at e
        cases q3 : Pv.peekV w with
        | none => rw [q3] at e; cases e
        | some dy =>
          rw [q3] at e
          simp only at e
          cases q4 : Pv.cmpD .mem dx dy with
          | none => rw [q4] at e; cases e
          | some r' =>
            rw [q4] at e
            simp only [Option.some.injEq] at e
            subst e
            refine op_cmp .nmem hu pins s σ H x y v u Q I rx ry ⟨Z, dx, dy, !r', d1.peek R q1, dS.peek q3, ?_, q⟩
            cases dy <;> simp only [Pv.cmpD] at q4 ⊢ <;> first | (split at q4 <;> first | (rename_i hf; rw [if_pos hf]; simp only [Option.some.injEq] at q4 ⊢; rw [q4]) | cases q4) | cases q4
  | eq => exact plain .eq (cmpH_no nofun nofun nofun nofun) rfl
  | ne => exact plain .ne (cmpH_no nofun nofun nofun nofun) rfl
  | lt => exact plain .lt (cmpH_no nofun nofun nofun nofun) rfl
  | le => exact plain .le (cmpH_no nofun nofun nofun nofun) rfl
  | gt => exact plain .gt (cmpH_no nofun nofun nofun nofun) rfl
  | ge => exact plain .ge (cmpH_no nofun nofun nofun nofun) rfl
/-- the meaning of a comparison -/
abbrev fCmp (o : Pv.COp) (f g : Pv.St → Res Hd) : Pv.St → Res Hd := fun S => Pv.rb (f S) (fun x S1 => Pv.rb (g S1) (fun y S2 => (match Pv.cmpH o x y S2 with | some r => some (.ok (.d (.bl r)) S2) | none => none)) ⟨⟩) ⟨⟩
theorem cmp_read {K : PySem.W.Frag} {o : Pv.COp} {σ : L2.St} {H : Hp} {Q : VK} (st : ∀ S x S1, f S = some (.ok x S1) → stale x = true → qb = true) (h : tOf K W (fCmp o f g) (qa && qb) σ H Q) :
    tOp (rCmpH K o) (tOf K W f qa) (tOf K W g qb) σ H Q := by
  refine two (k := fun x y S2 => ((match Pv.cmpH o x y S2 with | some r => some (.ok (.d (.bl r)) S2) | none => none) : Res Hd)) (fun _ _ => rfl) st h fun hx hy S2 v u H2 Z2 fp2 F1 F2 R2 d1 d2 _ e => ?_
  cases q1 : Pv.cmpH o hx hy S2 with
  | none => rw [q1] at e; exact e.elim
  | some r =>
    rw [q1] at e
    exact ⟨Z2, fp2, σ, S2, hx, hy, F1, F2, r, R2, d1, d2, q1, e _ H2 Z2 fp2 AS.no R2 .refl (fun _ => .refl) no_new (.d (.bl r))⟩
theorem ve_cmp {o : Pv.COp} (hu : X.A.units + 65 < cLine) (ha : VE X W a f qa) (hb : VE X W b g qb) (st : ∀ S x S1, f S = some (.ok x S1) → stale x = true → qb = true) (hm : behindInMarks (cop o) b = false) :
    VE X W (.Compare a [cop o] [b] pos) (fCmp o f g) (qa && qb) :=
  PE.imp (pe_cmpR (op_cmpH o hu) ha hb hm) fun _ _ _ h => cmp_read st h
/-- a test's leaf -/
abbrev fLeaf (f : Pv.St → Res Hd) : Pv.St → Res Bool := fun S => Pv.rb (f S) (fun x S1 => (match Pv.peek x S1 with | some d => Pv.lf (Pv.truV d) S1 | none => none)) ⟨⟩
theorem DenR.tru {K : PySem.W.Frag} {Z : AS} {H : Hp} {v : V} {d : D} {r : Bool} (h : DenR K Z H v d) (e : Pv.truV d = some r) : TruV K v H r := by
  cases d with
  | non =>
    cases h with
    | den d => cases d; exact (Option.some.inj e).symm
  | bl b =>
    obtain rfl := h.blOf
    exact (Option.some.inj e).symm
  | int i =>
    obtain rfl := h.intOf
    exact (Option.some.inj e).symm
  | tup xs =>
    obtain ⟨p, vs, rfl, hs, t⟩ := h.tupOf
    refine .inr (.inl ⟨vs, hs, ?_⟩)
    have e := (Option.some.inj e).symm
    rw [e]
    cases t <;> rfl
  | lst xs =>
    obtain ⟨p, vs, rfl, hs, t⟩ := h.lstOf
    refine .inl ⟨vs, hs, ?_⟩
    have e := (Option.some.inj e).symm
    rw [e]
    cases t <;> rfl
  | _ => simp [Pv.truV] at e
theorem leaf_read {K : PySem.W.Frag} {σ : L2.St} {H : Hp} {Q : Bool → Hp → Prop} (h : tOfB K W (fLeaf f) qa σ H Q) : tOf K W f qa σ H fun x H' => ∃ k, TruV K x H' k ∧ Q k H' := by
  obtain ⟨Z, fp, S, R, e⟩ := h
  refine ⟨Z, fp, S, R, tEnd.bind e (fun z => z) fun hx S1 e1 v H1 Z1 fp1 F1 R1 d1 s1 x1 nf1 e2 => ?_⟩
  have d1 : HdD K Z1 fp1 σ H1 v hx F1 := d1
  cases q1 : Pv.peek hx S1 with
  | none => rw [q1] at e2; exact e2.elim
  | some d =>
    rw [q1] at e2
    simp only at e2
    cases q2 : Pv.truV d with
    | none => rw [q2] at e2; exact e2.elim
    | some r =>
      rw [q2] at e2
      exact ⟨r, (d1.peek R1 q1).tru q2, e2 r H1 Z1 fp1 AS.no R1 .refl (fun _ => .refl) no_new rfl⟩
def plainT : Expr → Bool
  | .UnaryOp .Not _ _ => false
  | .BoolOp _ _ _ => false
  | .IfExp _ _ _ _ => false
  | .Compare _ _ _ _ => false
  | _ => true
theorem plainT_ok {e : Expr} {env : Env} (h : plainT e = true) (whole : Sem Value) : isTrue e env whole = (do let v ← whole; standAt e.pos; holding [v] (truthy v)) := by
  cases e with
  | UnaryOp op x p => cases op <;> first | rfl | simp [plainT] at h
  | BoolOp _ _ _ => simp [plainT] at h
  | IfExp _ _ _ _ => simp [plainT] at h
  | Compare _ _ _ _ => simp [plainT] at h
  | _ => rfl
theorem vt_leaf (ha : VE X W a f qa) (h : plainT a = true) : VT X W a (fLeaf f) qa := PT.imp (pt_truth ha (plainT_ok h)) fun _ _ _ h => leaf_read h
theorem vt_cmp {o : Pv.COp} (hu : X.A.units + 65 < cLine) (ha : VE X W a f qa) (hb : VE X W b g qb) (st : ∀ S x S1, f S = some (.ok x S1) → stale x = true → qb = true) (hm : behindInMarks (cop o) b = false) :
    VT X W (.Compare a [cop o] [b] pos) (fLeaf (fCmp o f g)) (qa && qb) := by
  refine PT.imp (pt_cmpR (op_cmpH o hu) ha hb hm) fun σ H Q h => cmp_read st ?_
  obtain ⟨Z, fp, S, R, e⟩ := h
  refine ⟨Z, fp, S, R, tEnd.bind e (fun z => z) fun hx S1 e1 v H1 Z1 fp1 F1 R1 d1 s1 x1 nf1 e2 => ?_⟩
  -- a comparison gives a bool
  have hb : ∃ r, hx = .d (.bl r) := by
    obtain ⟨x, S2, _, e1⟩ := rb_some e1
    obtain ⟨y, S3, _, e1⟩ := rb_some e1
    split at e1
    · simp only [Option.some.injEq, Out.ok.injEq] at e1; exact ⟨_, e1.1.symm⟩
    · cases e1
  obtain ⟨r, rfl⟩ := hb
  have d1 : HdD X.K Z1 fp1 σ H1 v (.d (.bl r)) F1 := d1
  obtain rfl := d1.dOf.1.blOf
  exact ⟨r, rfl, e2 r H1 Z1 fp1 AS.no R1 .refl (fun _ => .refl) no_new rfl⟩
end
end Ps
end

section
set_option Elab.async false
set_option linter.all false
set_option maxRecDepth 100000
set_option maxHeartbeats 4000000
/-! PvE3: and, or, not, displays, subscripts, slices. -/
namespace Ps
open PySem PySem.Spec PyProof.Rows L2
open Pv (D SV Hd Stp Cxt Res Out Flow)

section
variable {X : Cx} {W : WE} {a b c e : Expr} {f g k : Pv.St → Res Hd} {ft gt : Pv.St → Res Bool} {q qa qb qc : Bool} {pos : Pos}
theorem bl_of {K : PySem.W.Frag} {Z : AS} {fp : Nat → AS} {σ : L2.St} {H : Hp} {v : V} {h : Hd} {F : AS} {r : Bool} (d : HdD K Z fp σ H v h F) (e : Pv.blOf h = some r) : v = .bl r := by
  cases d with
  | d d =>
    cases d with
    | bl b => simp only [Pv.blOf, Option.some.injEq] at e; rw [e]
    | _ => simp [Pv.blOf] at e
  | at_ _ _ => simp [Pv.blOf] at e
  | fr _ _ => simp [Pv.blOf] at e
abbrev fAnd (f g : Pv.St → Res Hd) : Pv.St → Res Hd := fun S => Pv.rb (f S) (fun x S1 => (match Pv.blOf x with | some true => g S1 | some false => some (.ok (.d (.bl false)) S1) | none => none)) ⟨⟩
abbrev fOr (f g : Pv.St → Res Hd) : Pv.St → Res Hd := fun S => Pv.rb (f S) (fun x S1 => (match Pv.blOf x with | some true => some (.ok (.d (.bl true)) S1) | some false => g S1 | none => none)) ⟨⟩
theorem ve_and {rest : List Expr} (ha : VE X W a f qa) (hb : VE X W (.BoolOp .And (b :: rest) pos) g qb) : VE X W (.BoolOp .And (a :: b :: rest) pos) (fAnd f g) (qa && qb) := by
  refine PE.imp (pe_and ha hb) fun σ H Q h => ?_
  obtain ⟨Z, fp, S, R, e⟩ := h
  refine ⟨Z, fp, S, R, tEnd.bind e (fun z => (Bool.and_eq_true_iff.mp z).1) fun hx S1 e1 v H1 Z1 fp1 F1 R1 d1 s1 x1 nf1 e2 => ?_⟩
  cases q1 : Pv.blOf hx with
  | none => rw [q1] at e2; exact e2.elim
  | some r =>
    rw [q1] at e2
    refine ⟨r, bl_of d1 q1, ?_⟩
    cases r with
    | true => rw [if_pos rfl]; exact ⟨Z1, fp1, S1, R1, tEnd.weak e2 fun z => (Bool.and_eq_true_iff.mp z).2⟩
    | false => rw [if_neg Bool.false_ne_true]; exact e2 _ H1 Z1 fp1 AS.no R1 .refl (fun _ => .refl) no_new (.d (.bl false))
theorem ve_or {rest : List Expr} (ha : VE X W a f qa) (hb : VE X W (.BoolOp .Or (b :: rest) pos) g qb) : VE X W (.BoolOp .Or (a :: b :: rest) pos) (fOr f g) (qa && qb) := by
  refine PE.imp (pe_or ha hb) fun σ H Q h => ?_
  obtain ⟨Z, fp, S, R, e⟩ := h
  refine ⟨Z, fp, S, R, tEnd.bind e (fun z => (Bool.and_eq_true_iff.mp z).1) fun hx S1 e1 v H1 Z1 fp1 F1 R1 d1 s1 x1 nf1 e2 => ?_⟩
  cases q1 : Pv.blOf hx with
  | none => rw [q1] at e2; exact e2.elim
  | some r =>
    rw [q1] at e2
    refine ⟨r, bl_of d1 q1, ?_⟩
    cases r with
    | true => rw [if_pos rfl]; exact e2 _ H1 Z1 fp1 AS.no R1 .refl (fun _ => .refl) no_new (.d (.bl true))
    | false => rw [if_neg Bool.false_ne_true]; exact ⟨Z1, fp1, S1, R1, tEnd.weak e2 fun z => (Bool.and_eq_true_iff.mp z).2⟩
theorem ve_one {op : BoolOp} (ha : VE X W a f qa) : VE X W (.BoolOp op [a] pos) f qa := pe_one ha
theorem ve_not (ha : VE X W a f qa) : VE X W (.UnaryOp .Not a pos) (fun S => Pv.rb (f S) (fun x S1 => (match Pv.blOf x with | some r => some (.ok (.d (.bl (!r))) S1) | none => none)) ⟨⟩) qa := by
  refine PE.imp (pe_not ha) fun σ H Q h => ?_
  obtain ⟨Z, fp, S, R, e⟩ := h
  refine ⟨Z, fp, S, R, tEnd.bind e (fun z => z) fun hx S1 e1 v H1 Z1 fp1 F1 R1 d1 s1 x1 nf1 e2 => ?_⟩
  cases q1 : Pv.blOf hx with
  | none => rw [q1] at e2; exact e2.elim
  | some r =>
    rw [q1] at e2
    exact ⟨r, bl_of d1 q1, e2 _ H1 Z1 fp1 AS.no R1 .refl (fun _ => .refl) no_new (.d (.bl _))⟩
theorem ve_iff (hc : VT X W c ft qc) (ha : VE X W a f qa) (hb : VE X W b g qb) : VE X W (.IfExp c a b pos) (fun S => Pv.rb (ft S) (fun r S1 => if r = true then f S1 else g S1) ⟨⟩) (qc && (qa && qb)) := by
  refine PE.imp (pe_ifExp hc ha hb) fun σ H Q h => ?_
  obtain ⟨Z, fp, S, R, e⟩ := h
  refine ⟨Z, fp, S, R, tEnd.bind e (fun z => (Bool.and_eq_true_iff.mp z).1) fun r S1 e1 r' H1 Z1 fp1 F1 R1 d1 s1 x1 nf1 e2 => ?_⟩
  obtain rfl : r' = r := d1
  cases r' with
  | true => rw [if_pos rfl] at e2 ⊢; exact ⟨Z1, fp1, S1, R1, tEnd.weak e2 fun z => (Bool.and_eq_true_iff.mp (Bool.and_eq_true_iff.mp z).2).1⟩
  | false => rw [if_neg Bool.false_ne_true] at e2 ⊢; exact ⟨Z1, fp1, S1, R1, tEnd.weak e2 fun z => (Bool.and_eq_true_iff.mp (Bool.and_eq_true_iff.mp z).2).2⟩
/-! ### tests -/
abbrev VW (X : Cx) (W : WE) (e : Expr) (f : Pv.St → Res Bool) (q : Bool) : Prop := PW X e (tOfB X.K W f q)
abbrev fAndT (f g : Pv.St → Res Bool) : Pv.St → Res Bool := fun S => Pv.rb (f S) (fun r S1 => if r = true then g S1 else some (.ok false S1)) ⟨⟩
abbrev fOrT (f g : Pv.St → Res Bool) : Pv.St → Res Bool := fun S => Pv.rb (f S) (fun r S1 => if r = true then some (.ok true S1) else g S1) ⟨⟩
theorem vw_and1 (ha : VT X W a ft qa) : VW X W (.BoolOp .And [a] pos) ft qa := pw_and1 ha
theorem vw_or1 (ha : VT X W a ft qa) : VW X W (.BoolOp .Or [a] pos) ft qa := pw_or1 ha
theorem vw_and {rest : List Expr} (ha : VT X W a ft qa) (hb : VW X W (.BoolOp .And (b :: rest) pos) gt qb) : VW X W (.BoolOp .And (a :: b :: rest) pos) (fAndT ft gt) (qa && qb) := by
  refine PW.imp (pw_and ha hb) fun σ H Q h => ?_
  obtain ⟨Z, fp, S, R, e⟩ := h
  refine ⟨Z, fp, S, R, tEnd.bind e (fun z => (Bool.and_eq_true_iff.mp z).1) fun r S1 e1 r' H1 Z1 fp1 F1 R1 d1 s1 x1 nf1 e2 => ?_⟩
  obtain rfl : r' = r := d1
  cases r' with
  | true => rw [if_pos rfl] at e2 ⊢; exact ⟨Z1, fp1, S1, R1, tEnd.weak e2 fun z => (Bool.and_eq_true_iff.mp z).2⟩
  | false => rw [if_neg Bool.false_ne_true] at e2 ⊢; exact e2 false H1 Z1 fp1 AS.no R1 .refl (fun _ => .refl) no_new rfl
theorem vw_or {rest : List Expr} (ha : VT X W a ft qa) (hb : VW X W (.BoolOp .Or (b :: rest) pos) gt qb) : VW X W (.BoolOp .Or (a :: b :: rest) pos) (fOrT ft gt) (qa && qb) := by
  refine PW.imp (pw_or ha hb) fun σ H Q h => ?_
  obtain ⟨Z, fp, S, R, e⟩ := h
  refine ⟨Z, fp, S, R, tEnd.bind e (fun z => (Bool.and_eq_true_iff.mp z).1) fun r S1 e1 r' H1 Z1 fp1 F1 R1 d1 s1 x1 nf1 e2 => ?_⟩
  obtain rfl : r' = r := d1
  cases r' with
  | true => rw [if_pos rfl] at e2 ⊢; exact e2 true H1 Z1 fp1 AS.no R1 .refl (fun _ => .refl) no_new rfl
  | false => rw [if_neg Bool.false_ne_true] at e2 ⊢; exact ⟨Z1, fp1, S1, R1, tEnd.weak e2 fun z => (Bool.and_eq_true_iff.mp z).2⟩
theorem vt_not (ha : VT X W a ft qa) : VT X W (.UnaryOp .Not a pos) (fun S => Pv.rb (ft S) (fun r S1 => some (.ok (!r) S1)) ⟨⟩) qa := by
  refine PT.imp (pt_not ha) fun σ H Q h => ?_
  obtain ⟨Z, fp, S, R, e⟩ := h
  refine ⟨Z, fp, S, R, tEnd.bind e (fun z => z) fun r S1 e1 r' H1 Z1 fp1 F1 R1 d1 s1 x1 nf1 e2 => ?_⟩
  obtain rfl : r' = r := d1
  exact e2 (!r') H1 Z1 fp1 AS.no R1 .refl (fun _ => .refl) no_new rfl

theorem esc_no_exc (h : Hd) (S : Pv.St) (x : Pv.Exc) (S' : Pv.St) : Pv.esc h S ≠ some (.exc x S') := by
  cases h with
  | d d => simp [Pv.esc]
  | fr o => simp [Pv.esc]
  | at_ i p =>
    simp only [Pv.esc]
    split
    · split <;> simp
    · simp
/-! ### lists of operands -/
/-- handles of several operands -/
inductive HdL (K : PySem.W.Frag) (Z : AS) (fp : Nat → AS) (σ : L2.St) (H : Hp) : List V → List Hd → AS → Prop
  | nil : HdL K Z fp σ H [] [] AS.no
  | cons {v : V} {h : Hd} {vs : List V} {hs : List Hd} {F G : AS} : HdD K Z fp σ H v h F → HdL K Z fp σ H vs hs G → (∀ a, F a → ¬ G a) → HdL K Z fp σ H (v :: vs) (h :: hs) (fun a => F a ∨ G a)
def ddL (K : PySem.W.Frag) : DDk (List Hd) (List V) := fun Z fp σ H hs vs F => HdL K Z fp σ H vs hs F
def ddD (K : PySem.W.Frag) : DDk (List D) (List V) := fun Z fp σ H ds vs _ => DenL K Z H vs ds
abbrev VA (X : Cx) (W : WE) (es : List Expr) (f : Pv.St → Res (List Hd)) (q : Bool) : Prop := PA X es (tGen X.K W (ddL X.K) f q)
abbrev VD (X : Cx) (W : WE) (es : List Expr) (f : Pv.St → Res (List D)) (q : Bool) : Prop := PA X es (tGen X.K W (ddD X.K) f q)
theorem va_nil : VA X W [] (fun S => some (.ok [] S)) true := by
  refine PA.imp pa_nil fun σ H Q h => ?_
  obtain ⟨Z, fp, S, R, e⟩ := h
  exact e [] H Z fp AS.no R .refl (fun _ => .refl) no_new .nil
theorem va_cons {es : List Expr} {fs : Pv.St → Res (List Hd)} (ha : VE X W a f qa) (hb : VA X W es fs qb) (st : ∀ S x S1, f S = some (.ok x S1) → stale x = true → qb = true) (hs : starEach (a :: es) X.env = (false, eval a X.env) :: starEach es X.env) :
    VA X W (a :: es) (fun S => Pv.rb (f S) (fun h S1 => Pv.rb (fs S1) (fun hs S2 => some (.ok (h :: hs) S2)) ⟨⟩) ⟨⟩) (qa && qb) := by
  refine PA.imp (pa_cons ha hb hs) fun σ H Q h => ?_
  obtain ⟨Z, fp, S, R, e⟩ := h
  refine ⟨Z, fp, S, R, tEnd.bind0 .refl (fun _ => .refl) e (fun z => (Bool.and_eq_true_iff.mp z).1) fun hx S1 e1 v H1 Z1 fp1 F1 R1 d1 _ _ _ s1 x1 nf1 e2 => ?_⟩
  refine ⟨Z1, fp1, S1, R1, tEnd.bind0 s1 x1 e2 (fun z => (Bool.and_eq_true_iff.mp z).2) fun hxs S2 e3 vs H2 Z2 fp2 F2 R2 d2 s12 x12 nf12 s2 x2 nf2 e4 => ?_⟩
  have d1 : HdD X.K Z1 fp1 σ H1 v hx F1 := d1
  have d1' := d1.step R1 s12 fun z => x12 (st _ _ _ e1 z)
  refine e4 _ H2 Z2 fp2 _ R2 s2 x2 (fun c z => z.elim (nf1 c) (nf2 c)) (.cons d1' d2 fun a f1 f2 => ?_)
  rcases nf12 a f2 with ⟨j, z⟩ | z
  · exact (d1.own a f1).2 j z
  · obtain ⟨o, q⟩ := d1.trk a f1
    rw [z] at q; cases q
/-- items that become data, one after the other -/
theorem vd_nil : VD X W [] (fun S => some (.ok [] S)) true := by
  refine PA.imp pa_nil fun σ H Q h => ?_
  obtain ⟨Z, fp, S, R, e⟩ := h
  exact e [] H Z fp AS.no R .refl (fun _ => .refl) no_new .nil
theorem vd_cons {es : List Expr} {fs : Pv.St → Res (List D)} (ha : VE X W a f qa) (hb : VD X W es fs qb) (hs : starEach (a :: es) X.env = (false, eval a X.env) :: starEach es X.env) :
    VD X W (a :: es) (fun S => Pv.rb (f S) (fun h S1 => Pv.rb (Pv.esc h S1) (fun d S2 => Pv.rb (fs S2) (fun ds S3 => some (.ok (d :: ds) S3)) ⟨⟩) ⟨⟩) ⟨⟩) (qa && qb) := by
  refine PA.imp (pa_cons ha hb hs) fun σ H Q h => ?_
  obtain ⟨Z, fp, S, R, e⟩ := h
  refine ⟨Z, fp, S, R, tEnd.bind0 .refl (fun _ => .refl) e (fun z => (Bool.and_eq_true_iff.mp z).1) fun hx S1 e1 v H1 Z1 fp1 F1 R1 d1 _ _ _ s1 x1 nf1 e2 => ?_⟩
  have d1 : HdD X.K Z1 fp1 σ H1 v hx F1 := d1
  cases h1 : Pv.esc hx S1 with
  | none => rw [h1] at e2; exact e2.elim
  | some o =>
    cases o with
    | exc x S2 => exact absurd h1 (esc_no_exc hx S1 x S2)
    | ok d S2 =>
      rw [h1, Pv.rb_ok] at e2
      obtain ⟨Z2, fp2, R2, s2, dd, mz, _, _⟩ := esc_ok R1 d1 s1 nf1 h1
      refine ⟨Z2, fp2, S2, R2, tEnd.bind0 s2 x1 e2 (fun z => (Bool.and_eq_true_iff.mp z).2) fun ds S3 e3 vs H3 Z3 fp3 F3 R3 d3 s23 x23 nf23 s3 x3 nf3 e4 => ?_⟩
      exact e4 _ H3 Z3 fp3 AS.no R3 s3 x3 no_new (.cons (R2.den s23 dd) d3)
theorem ve_tup {es : List Expr} {fs : Pv.St → Res (List D)} {k : Nat} (hd : VD X W es fs q) : VE X W (.Tuple es k pos) (fun S => Pv.rb (fs S) (fun ds S1 => if Pv.sizeOk ds.length then some (.ok (.d (.tup ds)) S1) else none) ⟨⟩) q := by
  refine PE.imp (pe_tup hd) fun σ H Q h => ?_
  obtain ⟨Z, fp, S, R, e⟩ := h
  refine ⟨Z, fp, S, R, tEnd.bind e (fun z => z) fun ds S1 e1 vs H1 Z1 fp1 F1 R1 d1 s1 x1 nf1 e2 => ?_⟩
  have d1 : DenL X.K Z1 H1 vs ds := d1
  split at e2
  · rename_i hz
    refine ⟨by rw [d1.length]; exact sizeOk_le hz, fun p hp => ?_⟩
    exact tEnd.newD (z := .tup ds) R1 e2 _ _ (.tup hp d1)
  · exact e2.elim
theorem ve_lst {es : List Expr} {fs : Pv.St → Res (List D)} (hd : VD X W es fs q) : VE X W (.List es pos) (fun S => Pv.rb (fs S) (fun ds S1 => if Pv.sizeOk ds.length then some (.ok (.fr (.ol (ds.map SV.val))) S1) else none) ⟨⟩) q := by
  refine PE.imp (pe_lst hd) fun σ H Q h => ?_
  obtain ⟨Z, fp, S, R, e⟩ := h
  refine ⟨Z, fp, S, R, tEnd.bind e (fun z => z) fun ds S1 e1 vs H1 Z1 fp1 F1 R1 d1 s1 x1 nf1 e2 => ?_⟩
  have d1 : DenL X.K Z1 H1 vs ds := d1
  split at e2
  · rename_i hz
    refine ⟨by rw [d1.length]; exact sizeOk_le hz, fun p hp => ?_⟩
    exact tEnd.newD (z := .lst ds) R1 e2 _ _ (.lst hp d1)
  · exact e2.elim

/-! ### subscripts -/
theorem ixN_eq (n : Nat) (i : Int) : L2.ixN n i = Pv.ixN n i := rfl
theorem atI_of {α : Type} (xs : List α) (i : Int) : L2.atI xs i = Pv.atI xs i := by
  unfold L2.atI Pv.atI
  rw [ixN_eq]
  cases Pv.ixN xs.length i <;> rfl
theorem DenL.atI {K : PySem.W.Frag} {Z : AS} {H : Hp} {vs : List V} {ds : List D} {i : Int} {d : D} (t : DenL K Z H vs ds) (e : Pv.atI ds i = some d) : ∃ v, L2.atI vs i = some v ∧ Den K Z H v d := by
  rw [atI_of]
  unfold Pv.atI at e ⊢
  rw [t.length]
  cases h : Pv.ixN ds.length i with
  | none => rw [h] at e; cases e
  | some j =>
    rw [h] at e
    exact t.get e
/-- a subscript of a handle, by values -/
def rIxH (K : PySem.W.Frag) : R2 := fun x y H Q => ∃ Z fp σ S hx hy F1 F2 r, Rel K Z fp S σ H ∧ HdD K Z fp σ H x hx F1 ∧ HdD K Z fp σ H y hy F2 ∧ Pv.ixH hx hy S = some r ∧ ∀ v, HdD K Z fp σ H v r AS.no → Q v H
theorem ix_h : IxR X (rIxH X.K) := by
  intro value slice pins s σ H x y v u Q I rx ry h hs
  obtain ⟨Z, fp, σ', S, hx, hy, F1, F2, r, R, d1, d2, e, q⟩ := h
  unfold Pv.ixH at e
  cases q1 : Pv.look hx S with
  | none => rw [q1] at e; cases e
  | some o =>
    cases q2 : Pv.peek hy S with
    | none => rw [q1, q2] at e; cases e
    | some dy =>
      rw [q1, q2] at e
      simp only at e
      obtain ⟨G, dS, _⟩ := d1.look R q1
      have dy' := d2.peek R q2
      unfold Pv.subH at e
      split at e
      · rename_i xs i
        obtain ⟨dx, _⟩ := dS.valOf
        obtain rfl := dy'.intOf
        obtain ⟨p, vs, rfl, hp, t⟩ := dx.tupOf
        cases q3 : Pv.atI xs i with
        | none => rw [q3] at e; cases e
        | some d =>
          rw [q3] at e
          cases e
          obtain ⟨w, e1, dw⟩ := t.atI q3
          exact ix_tup value slice pins s σ H _ _ v u Q I rx ry ⟨p, vs, i, w, rfl, rfl, hp, e1, q w (.d dw)⟩ hs
      · rename_i xs i
        obtain ⟨dx, _⟩ := dS.valOf
        obtain rfl := dy'.intOf
        obtain ⟨p, vs, rfl, hp, t⟩ := dx.lstOf
        cases q3 : Pv.atI xs i with
        | none => rw [q3] at e; cases e
        | some d =>
          rw [q3] at e
          cases e
          obtain ⟨w, e1, dw⟩ := t.atI q3
          exact ix_list value slice pins s σ H _ _ v u Q I rx ry ⟨p, vs, i, w, rfl, rfl, hp, e1, q w (.d dw)⟩ hs
      · rename_i z i
        obtain ⟨dx, _⟩ := dS.valOf
        obtain rfl := dy'.intOf
        obtain rfl : x = .str (tx z) := by cases dx; rfl
        cases q3 : Pv.atI z i with
        | none => rw [q3] at e; cases e
        | some c =>
          rw [q3] at e
          simp only at e
          split at e
          · rename_i hz
            cases e
            have hz' := sizeOk_le hz
            refine ix_str value slice pins s σ H _ _ v u Q I rx ry ⟨tx z, i, c, rfl, rfl, by rw [tx_length]; exact hz', ?_, q _ (.d (.str [c]))⟩ hs
            show L2.atI z.toArray.toList i = some c
            rw [atI_of]
            simpa using q3
          · cases e
      · obtain ⟨dx, _⟩ := dS.valOf
        cases dx
      · cases dS
      · rename_i xs i
        obtain ⟨p, vs, G', rfl, hp, t, _, _⟩ := dS.olOf
        obtain rfl := dy'.intOf
        cases q3 : Pv.ixN xs.length i with
        | none => rw [q3] at e; cases e
        | some j =>
          rw [q3] at e
          simp only at e
          cases q4 : xs[j]? with
          | none => rw [q4] at e; cases e
          | some w =>
            rw [q4] at e
            cases w with
            | val d =>
              simp only [Option.some.injEq] at e
              subst e
              have hl := t.length
              have hj : j < vs.length := by rw [hl]; exact (List.getElem?_eq_some_iff.mp q4).1
              obtain ⟨G2, dw, _⟩ := DenSL.at t (List.getElem?_eq_getElem hj) q4
              refine ix_list value slice pins s σ H _ _ v u Q I rx ry ⟨p, vs, i, vs[j], rfl, rfl, .inl (.inl hp), ?_, q _ (.d dw.valOf.1)⟩ hs
              rw [atI_of]
              unfold Pv.atI
              rw [hl, q3]
              exact List.getElem?_eq_getElem hj
            | _ => cases e
      · cases e
def plainIx : Expr → Bool
  | .Slice _ _ _ _ => false
  | _ => true
theorem plainIx_ok {b : Expr} (h : plainIx b = true) : PlainIx b := by
  intro o i
  cases b <;> first | rfl | simp [plainIx] at h
theorem ve_ix (ha : VE X W a f qa) (hb : VE X W b g qb) (st : ∀ S x S1, f S = some (.ok x S1) → stale x = true → qb = true) (hs : plainIx b = true) :
    VE X W (.Subscript a b pos) (fun S => Pv.rb (f S) (fun x S1 => Pv.rb (g S1) (fun y S2 => Pv.lf (Pv.ixH x y S2) S2) ⟨⟩) ⟨⟩) (qa && qb) := by
  refine PE.imp (pe_ix ix_h ha hb (plainIx_ok hs)) fun σ H Q h => ?_
  refine two (k := fun x y S2 => Pv.lf (Pv.ixH x y S2) S2) (fun _ _ => rfl) st h fun hx hy S2 v u H2 Z2 fp2 F1 F2 R2 d1 d2 _ e => ?_
  cases q1 : Pv.ixH hx hy S2 with
  | none => rw [q1] at e; exact e.elim
  | some r =>
    rw [q1] at e
    exact ⟨Z2, fp2, σ, S2, hx, hy, F1, F2, r, R2, d1, d2, q1, fun w dw => e _ H2 Z2 fp2 AS.no R2 .refl (fun _ => .refl) no_new dw⟩
end
end Ps
end

section
set_option Elab.async false
set_option linter.all false
set_option maxRecDepth 100000
set_option maxHeartbeats 4000000
/-! PvE4: slices, the module's constants, the built-in functions, isinstance. -/
namespace Ps
open PySem PySem.Spec PyProof.Rows L2
open Pv (D SV Hd Stp Cxt Res Out Flow)

section
variable {X : Cx} {W : WE} {a b c e : Expr} {f g k : Pv.St → Res Hd} {q qa qb qc : Bool} {pos : Pos}

/-! ### slices -/
def ddO : DDk (Option Int) (Option Int) := fun _ _ _ _ a b _ => b = a
abbrev VO (X : Cx) (W : WE) (e : Option Expr) (f : Pv.St → Res (Option Int)) (q : Bool) : Prop := PO X e (tGen X.K W ddO f q)
theorem PO.imp {e : Option Expr} {t t' : TO} (h : PO X e t) (i : ∀ σ H Q, t' σ H Q → t σ H Q) : PO X e t' := ⟨fun pins s σ H Q I x => h.run pins s σ H Q I (i σ H Q x)⟩
theorem vo_none : VO X W none (fun S => some (.ok none S)) true := by
  refine PO.imp po_none fun σ H Q h => ?_
  obtain ⟨Z, fp, S, R, e⟩ := h
  exact e none H Z fp AS.no R .refl (fun _ => .refl) no_new rfl
theorem vo_some (ha : VE X W a f qa) : VO X W (some a) (fun S => Pv.rb (f S) (fun h S1 => (match h with | .d (.int i) => some (.ok (some i) S1) | _ => none)) ⟨⟩) qa := by
  refine PO.imp (po_some ha) fun σ H Q h => ?_
  obtain ⟨Z, fp, S, R, e⟩ := h
  refine ⟨Z, fp, S, R, tEnd.bind e (fun z => z) fun hx S1 e1 v H1 Z1 fp1 F1 R1 d1 s1 x1 nf1 e2 => ?_⟩
  split at e2
  · rename_i i
    have d1 : HdD X.K Z1 fp1 σ H1 v (.d (.int i)) F1 := d1
    obtain rfl := d1.dOf.1.intOf
    exact ⟨i, rfl, e2 _ H1 Z1 fp1 AS.no R1 .refl (fun _ => .refl) no_new rfl⟩
  · exact e2.elim
def rSlD (K : PySem.W.Frag) : V → Option Int → Option Int → Hp → VK → Prop := fun x lo hi H Q => ∃ Z d z, DenR K Z H x d ∧ Pv.slcD lo hi d = some z ∧ ∀ v H', NewD K Z H v z H' → Q v H'
theorem cut_den {K : PySem.W.Frag} {Z : AS} {H : Hp} {vs : List V} {ds : List D} (t : DenL K Z H vs ds) (lo hi : Option Int) : DenL K Z H (cutV vs lo hi) (Pv.cut ds lo hi) := by
  have e : cutV vs lo hi = Pv.cut vs lo hi := rfl
  rw [e]
  unfold Pv.cut
  rw [t.length]
  exact (t.drop _).take _
theorem sl_d : SlR X (rSlD X.K) := by
  intro pins s σ H x v vl vu lo hi sl Q I rx hs pl pu h
  obtain ⟨Z, d, z, hd, e, q⟩ := h
  unfold Pv.slcD at e
  split at e
  · rename_i ds
    cases e
    obtain ⟨a, xs, rfl, ha, t⟩ := hd.tupOf
    refine sl_tupA pins s σ H _ v vl vu lo hi sl Q I rx hs pl pu ⟨a, xs, rfl, ha, fun hw => ?_, fun _ p hp => q _ _ (.tup hp (cut_den t lo hi))⟩
    have hw' : Pv.sIx xs.length 0 lo = 0 ∧ Pv.sIx xs.length xs.length hi = xs.length := hw
    rw [t.length] at hw'
    have hc : Pv.cut ds lo hi = ds := by
      unfold Pv.cut
      rw [hw'.1, hw'.2]
      simp
    rw [hc] at q
    cases hd with
    | den d => exact q _ _ (.same d fun _ => nofun)
  · cases e
    obtain ⟨a, xs, rfl, ha, t⟩ := hd.lstOf
    exact sl_list pins s σ H _ v vl vu lo hi sl Q I rx hs pl pu ⟨a, xs, rfl, ha, fun p hp => q _ _ (.lst hp (cut_den t lo hi))⟩
  · split at e
    · rename_i w hz
      cases e
      obtain rfl := hd.strOf
      refine sl_str pins s σ H _ v vl vu lo hi sl Q I rx hs pl pu ⟨tx w, rfl, by rw [tx_length]; exact sizeOk_le hz, ?_⟩
      have e1 : cutS (tx w) lo hi = tx (Pv.cut w lo hi) := by
        unfold cutS Pv.cut
        rw [tx_length]
        rfl
      rw [e1]
      exact q _ _ new_str
    · cases e
  · cases e
theorem ve_slc {lo hi : Option Expr} {fl fu : Pv.St → Res (Option Int)} {ql qu : Bool} {p2 : Pos} (ha : VE X W a f qa) (hl : VO X W lo fl ql) (hu : VO X W hi fu qu) (st : ∀ S x S1, f S = some (.ok x S1) → stale x = true → ql = true ∧ qu = true) :
    VE X W (.Subscript a (.Slice lo hi none p2) pos) (fun S => Pv.rb (f S) (fun x S1 => Pv.rb (fl S1) (fun l S2 => Pv.rb (fu S2) (fun u S3 =>
      (match Pv.peek x S3 with | some d => (match Pv.slcD l u d with | some z => some (.ok (Pv.newH z) S3) | none => none) | none => none)) ⟨⟩) ⟨⟩) ⟨⟩) (qa && (ql && qu)) := by
  refine PE.imp (pe_slice sl_d ha hl hu) fun σ H Q h => ?_
  obtain ⟨Z, fp, S, R, e⟩ := h
  refine ⟨Z, fp, S, R, tEnd.bind e (fun z => (Bool.and_eq_true_iff.mp z).1) fun hx S1 e1 v H1 Z1 fp1 F1 R1 d1 s1 x1 nf1 e2 => ?_⟩
  have d1 : HdD X.K Z1 fp1 σ H1 v hx F1 := d1
  refine ⟨Z1, fp1, S1, R1, tEnd.bind e2 (fun z => (Bool.and_eq_true_iff.mp (Bool.and_eq_true_iff.mp z).2).1) fun l S2 e3 l' H2 Z2 fp2 F2 R2 d2 s2 x2 nf2 e4 => ?_⟩
  obtain rfl : l' = l := d2
  have d1' := d1.step R1 s2 fun z => x2 (st _ _ _ e1 z).1
  refine ⟨Z2, fp2, S2, R2, tEnd.bind e4 (fun z => (Bool.and_eq_true_iff.mp (Bool.and_eq_true_iff.mp z).2).2) fun u S3 e5 u' H3 Z3 fp3 F3 R3 d3 s3 x3 nf3 e6 => ?_⟩
  obtain rfl : u' = u := d3
  have d1'' := d1'.step R2 s3 fun z => x3 (st _ _ _ e1 z).2
  cases q1 : Pv.peek hx S3 with
  | none => rw [q1] at e6; exact e6.elim
  | some d =>
    rw [q1] at e6
    simp only at e6
    cases q2 : Pv.slcD l' u' d with
    | none => rw [q2] at e6; exact e6.elim
    | some z =>
      rw [q2] at e6
      exact ⟨Z3, d, z, d1''.peek R3 q1, q2, tEnd.newD R3 e6⟩
theorem ve_rev {i : Nat} {p1 p2 p3 : Pos} (ha : VE X W a f qa) : VE X W (.Subscript a (.Slice none none (some (.UnaryOp .USub (.Constant (.int 1) i p1) p2)) p3) pos) (fun S => Pv.rb (f S) (fun x S1 => (match Pv.peek x S1 with | some d => (match Pv.revD d with | some z => some (.ok (Pv.newH z) S1) | none => none) | none => none)) ⟨⟩) qa := by
  refine PE.imp (pe_revL ha) fun σ H Q h => ?_
  obtain ⟨Z, fp, S, R, e⟩ := h
  refine ⟨Z, fp, S, R, tEnd.bind e (fun z => z) fun hx S1 e1 v H1 Z1 fp1 F1 R1 d1 s1 x1 nf1 e2 => ?_⟩
  have d1 : HdD X.K Z1 fp1 σ H1 v hx F1 := d1
  cases q1 : Pv.peek hx S1 with
  | none => rw [q1] at e2; exact e2.elim
  | some d =>
    rw [q1] at e2
    simp only at e2
    cases d <;> simp only [Pv.revD] at e2 <;> try exact e2.elim
    rename_i ds
    obtain ⟨p, xs, rfl, hs, t⟩ := (d1.peek R1 q1).lstOf
    exact ⟨p, xs, rfl, hs, fun p hp => tEnd.newD (z := .lst ds.reverse) R1 e2 _ _ (.lst hp t.reverse)⟩

/-! ### the module's constants -/
theorem ve_glb {x : Str} {v : V} {u : Value} {d : D} (hg : Gl X x) (hm : X.mg x = some u) (r : RelV v u) (hd : (x == ("__debug__" : Str)) = false) (hv : ∀ Z H, Den X.K Z H v d) : VE X W (.Name x pos) (fun S => some (.ok (.d d) S)) true :=
  ve_cst (pe_glob hg hm r hd) hv

/-! ### built-in functions -/
inductive DenRL (K : PySem.W.Frag) (Z : AS) (H : Hp) : List V → List D → Prop
  | nil : DenRL K Z H [] []
  | cons {v : V} {d : D} {vs : List V} {ds : List D} : DenR K Z H v d → DenRL K Z H vs ds → DenRL K Z H (v :: vs) (d :: ds)
theorem HdL.peeks {K : PySem.W.Frag} {Z : AS} {fp : Nat → AS} {S : Pv.St} {σ : L2.St} {H : Hp} (R : Rel K Z fp S σ H) : ∀ {vs : List V} {hs : List Hd} {F : AS} {ds : List D}, HdL K Z fp σ H vs hs F → Pv.peeks hs S = some ds → DenRL K Z H vs ds
  | _, _, _, _, .nil, e => by
    simp only [Pv.peeks, Option.some.injEq] at e
    subst e
    exact .nil
  | _, _, _, ds, .cons (h := h) (hs := hs) x t n, e => by
    simp only [Pv.peeks] at e
    cases q1 : Pv.peek h S with
    | none => rw [q1] at e; cases e
    | some d =>
      cases q2 : Pv.peeks hs S with
      | none => rw [q1, q2] at e; cases e
      | some ds' =>
        rw [q1, q2] at e
        simp only [Option.some.injEq] at e
        subst e
        exact .cons (x.peek R q1) (HdL.peeks R t q2)
def biV : Pv.Bi → Value
  | .len => .builtin "len"
  | .int => .type "int"
  | .abs => .builtin "abs"
  | .min => .builtin "min"
  | .max => .builtin "max"
  | .sorted => .builtin "sorted"
  | .list => .type "list"
  | .tuple => .type "tuple"
  | .gcd => .builtin "math.gcd"
  | .sum => .builtin "sum"
  | .any => .builtin "any"
  | .all => .builtin "all"
def rBi (K : PySem.W.Frag) (b : Pv.Bi) : List V → Hp → VK → Prop := fun vs H Q => ∃ Z fp σ S hs F h, Rel K Z fp S σ H ∧ HdL K Z fp σ H vs hs F ∧ Pv.biH b hs S = some h ∧ ∀ v H' z, h = Pv.newH z → NewD K Z H v z H' → Q v H'
theorem DenR.intsOf {K : PySem.W.Frag} {Z : AS} {H : Hp} : ∀ {vs : List V} {ds : List D} {is : List Int}, DenL K Z H vs ds → Pv.intsOf ds = some is → vs = is.map V.int
  | _, _, _, .nil, e => by
    simp only [Pv.intsOf, Option.some.injEq] at e
    subst e
    rfl
  | _, _, is, .cons (d := d) (ds := ds) x t, e => by
    cases d <;> simp only [Pv.intsOf] at e <;> try cases e
    cases q : Pv.intsOf ds with
    | none => rw [q] at e; cases e
    | some is' =>
      rw [q] at e
      simp only [Option.some.injEq] at e
      subst e
      rw [x.intOf, DenR.intsOf t q]
      rfl
theorem DenR.blsOf {K : PySem.W.Frag} {Z : AS} {H : Hp} : ∀ {vs : List V} {ds : List D} {is : List Bool}, DenL K Z H vs ds → Pv.blsOf ds = some is → vs = is.map V.bl
  | _, _, _, .nil, e => by
    simp only [Pv.blsOf, Option.some.injEq] at e
    subst e
    rfl
  | _, _, is, .cons (d := d) (ds := ds) x t, e => by
    cases d <;> simp only [Pv.blsOf] at e <;> try cases e
    cases q : Pv.blsOf ds with
    | none => rw [q] at e; cases e
    | some is' =>
      rw [q] at e
      simp only [Option.some.injEq] at e
      subst e
      rw [x.blOf, DenR.blsOf t q]
      rfl
theorem minI_spec {is : List Int} {m m' : Int} (e : Pv.minI is = some m) (h1 : m' ∈ is) (h2 : ∀ y, y ∈ is → m' ≤ y) : m' = m := by
  cases is with
  | nil => cases e
  | cons i is =>
    simp only [Pv.minI, Option.some.injEq] at e
    have key : ∀ (l : List Int) (x : Int), (l.foldl (fun a b => if b < a then b else a) x = x ∨ l.foldl (fun a b => if b < a then b else a) x ∈ l) ∧ l.foldl (fun a b => if b < a then b else a) x ≤ x ∧ ∀ y ∈ l, l.foldl (fun a b => if b < a then b else a) x ≤ y := by
      intro l
      induction l with
      | nil => intro x; simp
      | cons y l ih =>
        intro x
        simp only [List.foldl_cons]
        obtain ⟨k1, k2, k3⟩ := ih (if y < x then y else x)
        refine ⟨?_, ?_, ?_⟩
        · rcases k1 with k1 | k1
          · rw [k1]
            split
            · exact .inr (by simp)
            · exact .inl rfl
          · exact .inr (by simp [k1])
        · split at k2 <;> split <;> omega
        · intro z hz
          rcases List.mem_cons.mp hz with rfl | hz
          · split at k2 <;> split <;> omega
          · exact k3 z hz
    obtain ⟨k1, k2, k3⟩ := key is i
    rw [e] at k1 k2 k3
    have hm : m ∈ i :: is := by
      rcases k1 with k1 | k1
      · rw [k1]; simp
      · simp [k1]
    have g1 := h2 m hm
    have g2 : m ≤ m' := by
      rcases List.mem_cons.mp h1 with rfl | h1
      · exact k2
      · exact k3 _ h1
    omega
theorem maxI_spec {is : List Int} {m m' : Int} (e : Pv.maxI is = some m) (h1 : m' ∈ is) (h2 : ∀ y, y ∈ is → y ≤ m') : m' = m := by
  cases is with
  | nil => cases e
  | cons i is =>
    simp only [Pv.maxI, Option.some.injEq] at e
    have key : ∀ (l : List Int) (x : Int), (l.foldl (fun a b => if b > a then b else a) x = x ∨ l.foldl (fun a b => if b > a then b else a) x ∈ l) ∧ x ≤ l.foldl (fun a b => if b > a then b else a) x ∧ ∀ y ∈ l, y ≤ l.foldl (fun a b => if b > a then b else a) x := by
      intro l
      induction l with
      | nil => intro x; simp
      | cons y l ih =>
        intro x
        simp only [List.foldl_cons]
        obtain ⟨k1, k2, k3⟩ := ih (if y > x then y else x)
        refine ⟨?_, ?_, ?_⟩
        · rcases k1 with k1 | k1
          · rw [k1]
            split
            · exact .inr (by simp)
            · exact .inl rfl
          · exact .inr (by simp [k1])
        · split at k2 <;> split <;> omega
        · intro z hz
          rcases List.mem_cons.mp hz with rfl | hz
          · split at k2 <;> split <;> omega
          · exact k3 z hz
    obtain ⟨k1, k2, k3⟩ := key is i
    rw [e] at k1 k2 k3
    have hm : m ∈ i :: is := by
      rcases k1 with k1 | k1
      · rw [k1]; simp
      · simp [k1]
    have g1 := h2 m hm
    have g2 : m' ≤ m := by
      rcases List.mem_cons.mp h1 with rfl | h1
      · exact k2
      · exact k3 _ h1
    omega
end
end Ps
end

section
set_option Elab.async false
set_option linter.all false
set_option maxRecDepth 100000
set_option maxHeartbeats 4000000
/-! PvE5: the built-in functions, isinstance. -/
namespace Ps
open PySem PySem.Spec PyProof.Rows L2
open Pv (D SV Hd Stp Cxt Res Out Flow)

section
variable {X : Cx} {W : WE} {a b c e : Expr} {f g k : Pv.St → Res Hd} {q qa qb qc : Bool} {pos : Pos}
/-- the arguments as data -/
def rBiD (K : PySem.W.Frag) (b : Pv.Bi) : List V → Hp → VK → Prop := fun vs H Q => ∃ Z ds z, DenRL K Z H vs ds ∧ Pv.biD b ds = some z ∧ ∀ v H', NewD K Z H v z H' → Q v H'
theorem lst_same {K : PySem.W.Frag} {Z : AS} {H : Hp} {v : V} {ds : List D} (h : DenR K Z H v (.tup ds)) : NewD K Z H v (.tup ds) H := by
  cases h with
  | den d => exact .same d fun _ => nofun

theorem depth_le {x : D} (h : Pv.fits x = true) : (toPy x).depth ≤ 64 := (fit_py x 64 h).2
theorem alk_ok {x y : D} (hx : Pv.fits x = true) (hy : Pv.fits y = true) (h : Pv.alk x y = true) : PySem.W.alike (toPy x) (toPy y) = true := by rw [alk_py x y 64 64 hx hy]; exact h
theorem each_reads {pins : List (Addr × Obj)} {s : Shared} {σ : L2.St} {H : Hp} {Z : AS} (I : L2.Inv X pins σ H s) : ∀ {vs : List V} {ds : List D} {us : List Value}, DenL X.K Z H vs ds → Vals vs us → PySem.W.EachIs (fun u d => (∃ v, RelV v u ∧ Den X.K Z H v d) ∧ ∃ as, Reads s.heap u (toPy d) as) us ds
  | _, _, _, .nil, .nil => .nil
  | _, _, _, .cons x t, .cons r rs => .cons ⟨⟨_, r, x⟩, Dp.reads I _ _ _ x.dp r⟩ (each_reads I t rs)
theorem each_vals {K : PySem.W.Frag} {Z : AS} {H : Hp} : ∀ {us : List Value} {ds : List D}, PySem.W.EachIs (fun u d => ∃ v, RelV v u ∧ Den K Z H v d) us ds → ∃ vs, Vals vs us ∧ DenL K Z H vs ds
  | _, _, .nil => ⟨[], .nil, .nil⟩
  | _, _, .cons ⟨v, r, x⟩ t => by
    obtain ⟨vs, h1, h2⟩ := each_vals t
    exact ⟨v :: vs, .cons r h1, .cons x h2⟩
theorem each_imp {α β : Type} {R R' : α → β → Prop} (h : ∀ a b, R a b → R' a b) : ∀ {xs : List α} {ys : List β}, PySem.W.EachIs R xs ys → PySem.W.EachIs R' xs ys
  | _, _, .nil => .nil
  | _, _, .cons x t => .cons (h _ _ x) (each_imp h t)
theorem srt_le {xs : List D} (h : ∀ x ∈ xs, Pv.fits x = true ∧ (∀ y ∈ xs, Pv.alk x y = true) ∧ x ≠ .non) : xs.mergeSort (PySem.W.dataLe false toPy) = xs.mergeSort fun a b => !Pv.ltd b a := by
  have key : ∀ a ∈ xs, ∀ b ∈ xs, PySem.W.dataLe false toPy a b = !Pv.ltd b a := by
    intro a ha b hb
    rw [PySem.W.dataLe_eq]
    show (!PySem.W.dataLt (toPy b) (toPy a)) = _
    rw [ltd_py b a 64 64 (h b hb).1 (h a ha).1 ((h b hb).2.1 a ha) (h b hb).2.2]
  -- both sort alike on xs
  have gen : ∀ (l r : D → D → Bool), (∀ a ∈ xs, ∀ b ∈ xs, l a b = r a b) → xs.mergeSort l = xs.mergeSort r := by
    intro l r hlr
    have h1 := List.map_mergeSort (r := fun (a b : {x // x ∈ xs}) => l a.1 b.1) (s := l) (f := Subtype.val) (l := xs.attach) (fun a _ b _ => rfl)
    have h2 := List.map_mergeSort (r := fun (a b : {x // x ∈ xs}) => r a.1 b.1) (s := r) (f := Subtype.val) (l := xs.attach) (fun a _ b _ => rfl)
    rw [List.attach_map_subtype_val] at h1 h2
    rw [← h1, ← h2]
    congr 2
    funext a b
    exact hlr a.1 a.2 b.1 b.2
  exact gen _ _ key
theorem call_biD (b : Pv.Bi) (hc : X.calm = true) (hu : X.A.units + 66 < cLine) : CallR X (biV b) (rBiD X.K b) := by
  intro pins s σ H vs us Q I r h
  obtain ⟨Z, ds, z, hd, e, q⟩ := h
  unfold Pv.biD at e
  split at e
  · -- int(i)
    cases e
    cases hd with
    | cons x t => cases t; obtain rfl := x.intOf; exact call_int1 pins s σ H _ us Q I r (.inl ⟨_, rfl, q _ _ new_int⟩)
  · cases e
    cases hd with
    | cons x t => cases t; obtain rfl := x.blOf; exact call_int1 pins s σ H _ us Q I r (.inr ⟨_, rfl, q _ _ new_int⟩)
  · cases e
    cases hd with
    | cons x t => cases t; obtain rfl := x.intOf; exact call_abs pins s σ H _ us Q I r ⟨_, rfl, q _ _ new_int⟩
  · cases e
    cases hd with
    | cons x t => cases t with
      | cons y t => cases t; obtain rfl := x.intOf; obtain rfl := y.intOf; exact call_min2 hc pins s σ H _ us Q I r ⟨_, _, rfl, q _ _ new_int⟩
  · cases e
    cases hd with
    | cons x t => cases t with
      | cons y t => cases t; obtain rfl := x.intOf; obtain rfl := y.intOf; exact call_max2 hc pins s σ H _ us Q I r ⟨_, _, rfl, q _ _ new_int⟩
  · -- min of a list
    rename_i xs
    cases q1 : Pv.intsOf xs with
    | none => rw [q1] at e; cases e
    | some is =>
      rw [q1] at e
      simp only at e
      cases q2 : Pv.minI is with
      | none => rw [q2] at e; cases e
      | some m =>
        rw [q2] at e
        cases e
        cases hd with
        | cons x t =>
          cases t
          obtain ⟨p, ws, rfl, hp, t⟩ := x.lstOf
          obtain rfl := DenR.intsOf t q1
          have hne : 0 < is.length := by
            cases is with
            | nil => cases q2
            | cons _ _ => simp
          refine cr_min hc pins s σ H _ us Q I r ⟨p, is, rfl, hp, hne, fun m' h1 h2 => ?_⟩
          rw [minI_spec q2 h1 h2]
          exact q _ _ new_int
  · rename_i xs
    cases q1 : Pv.intsOf xs with
    | none => rw [q1] at e; cases e
    | some is =>
      rw [q1] at e
      simp only at e
      cases q2 : Pv.maxI is with
      | none => rw [q2] at e; cases e
      | some m =>
        rw [q2] at e
        cases e
        cases hd with
        | cons x t =>
          cases t
          obtain ⟨p, ws, rfl, hp, t⟩ := x.lstOf
          obtain rfl := DenR.intsOf t q1
          have hne : 0 < is.length := by
            cases is with
            | nil => cases q2
            | cons _ _ => simp
          refine cr_max hc pins s σ H _ us Q I r ⟨p, is, rfl, hp, hne, fun m' h1 h2 => ?_⟩
          rw [maxI_spec q2 h1 h2]
          exact q _ _ new_int
  · rename_i xs
    cases q1 : Pv.intsOf xs with
    | none => rw [q1] at e; cases e
    | some is =>
      rw [q1] at e
      cases e
      cases hd with
      | cons x t =>
        cases t
        obtain ⟨p, ws, rfl, hp, t⟩ := x.lstOf
        obtain rfl := DenR.intsOf t q1
        exact cr_sum hc pins s σ H _ us Q I r ⟨p, is, rfl, hp, q _ _ new_int⟩
  · rename_i xs
    cases q1 : Pv.blsOf xs with
    | none => rw [q1] at e; cases e
    | some is =>
      rw [q1] at e
      cases e
      cases hd with
      | cons x t =>
        cases t
        obtain ⟨p, ws, rfl, hp, t⟩ := x.lstOf
        obtain rfl := DenR.blsOf t q1
        exact cr_any hc pins s σ H _ us Q I r ⟨p, is, rfl, hp, q _ _ new_bl⟩
  · rename_i xs
    cases q1 : Pv.blsOf xs with
    | none => rw [q1] at e; cases e
    | some is =>
      rw [q1] at e
      cases e
      cases hd with
      | cons x t =>
        cases t
        obtain ⟨p, ws, rfl, hp, t⟩ := x.lstOf
        obtain rfl := DenR.blsOf t q1
        exact cr_all hc pins s σ H _ us Q I r ⟨p, is, rfl, hp, q _ _ new_bl⟩
  · -- gcd
    cases e
    cases hd with
    | cons x t => cases t with
      | cons y t => cases t; obtain rfl := x.intOf; obtain rfl := y.intOf; exact cr_gcd pins s σ H _ us Q I r ⟨_, _, rfl, q _ _ new_int⟩
  · -- sorted
    rename_i xs
    split at e
    · rename_i hs
      cases e
      cases hd with
      | cons x t =>
        cases t
        obtain ⟨p, ws, rfl, hp, t⟩ := x.lstOf
        rw [Vals.ref1 r]
        obtain ⟨its, rv, hl, hz⟩ := I.list hp
        unfold Pv.srtOk at hs
        rw [Bool.and_eq_true, List.all_eq_true] at hs
        have hf : ∀ x ∈ xs, Pv.fits x = true ∧ ∀ y ∈ xs, Pv.alk x y = true := fun x hx => by
          have := hs.1 x hx
          rw [Bool.and_eq_true, List.all_eq_true] at this
          exact this
        have hk : (∀ x ∈ xs, ∃ y r, x = .tup (y :: r)) ∨ ∀ x ∈ xs, x ≠ .non ∧ ∀ r, x ≠ .tup r := by
          have h2 := hs.2
          rw [Bool.or_eq_true, List.all_eq_true, List.all_eq_true] at h2
          refine h2.imp (fun h x hx => ?_) fun h x hx => ?_
          · have := h x hx
            split at this
            · exact ⟨_, _, rfl⟩
            · cases this
          · have := h x hx
            split at this
            · cases this
            · cases this
            · rename_i h1 h2
              exact ⟨fun z => h2 z, fun r z => h1 r z⟩
        have hks : PySem.W.Sortable (xs.map toPy) := by
          refine hk.imp (fun h d hd => ?_) fun h d hd => ?_
          · obtain ⟨x, hx, rfl⟩ := List.mem_map.mp hd
            obtain ⟨y, r, rfl⟩ := h x hx
            exact ⟨toPy y, toPyL r, by simp [toPy, toPyL]⟩
          · obtain ⟨x, hx, rfl⟩ := List.mem_map.mp hd
            obtain ⟨h1, h2⟩ := h x hx
            have hfx := (hf x hx).1
            cases x with
            | non => exact absurd rfl h1
            | tup _ => exact absurd rfl (h2 _)
            | dct _ _ _ => simp [Pv.fits, Pv.fit] at hfx
            | obj _ _ _ => simp [Pv.fits, Pv.fit] at hfx
            | _ => exact ⟨nofun, fun _ => nofun⟩
        have hal : PySem.W.AllAlike (xs.map toPy) := by
          intro d hd d' hd'
          obtain ⟨x, hx, rfl⟩ := List.mem_map.mp hd
          obtain ⟨y, hy, rfl⟩ := List.mem_map.mp hd'
          exact alk_ok (hf x hx).1 (hf y hy).1 ((hf x hx).2 y hy)
        have hno : ∀ x ∈ xs, x ≠ .non := fun x hx => hk.elim (fun h => by obtain ⟨y, r, rfl⟩ := h x hx; nofun) fun h => (h x hx).1
        have ea := each_reads I t rv
        have e1 : PySem.W.EachIs (fun u d => ∃ v, RelV v u ∧ Den X.K Z H v d) its xs := each_imp (fun _ _ h => h.1) ea
        have e2 : PySem.W.EachIs (fun u d => ∃ as, Reads s.heap u (toPy d) as) its xs := each_imp (fun _ _ h => h.2) ea
        have hlen : xs.length ≤ sizeLine := by rw [← t.length]; exact hz
        refine PySem.W.sorted_data hl.isList e1 e2 hal hks hlen (fun x hx => ?_) fun out ho eo => ?_
        · have := depth_le (hf x hx).1
          omega
        · obtain ⟨ep, he'⟩ := PyProof.Rows.sortedAll_at s.heap its out.toArray
          rw [srt_le fun x hx => ⟨(hf x hx).1, (hf x hx).2, hno x hx⟩] at eo
          obtain ⟨vs', hv', hd'⟩ := each_vals eo
          have hl' := hd'.length
          rw [List.length_mergeSort] at hl'
          exact ⟨.ref _, upd H (s.heap.objs.size + 1) (.lst vs'), I.laid (t' := s.toks) (fun _ _ => PyProof.Rows.sortedAll_old) (Nat.le_succ _) ⟨by rw [hl']; exact hlen, out, ep, hv', he'⟩, rfl, q _ _ (.lst (I.hok.fresh (Nat.le_succ _)) hd')⟩
    · cases e
  · -- list(xs)
    cases e
    cases hd with
    | cons x t =>
      cases t
      obtain ⟨p, ws, rfl, hp, t⟩ := x.lstOf
      exact call_list_of pins s σ H _ us Q I r ⟨p, ws, rfl, .inl hp, fun l hl => q _ _ (.lst hl t)⟩
  · cases e
    cases hd with
    | cons x t =>
      cases t
      obtain ⟨p, ws, rfl, hp, t⟩ := x.tupOf
      exact call_list_of pins s σ H _ us Q I r ⟨p, ws, rfl, .inr hp, fun l hl => q _ _ (.lst hl t)⟩
  · -- list(dict)
    cases hd with
    | cons x t =>
      cases t
      cases x with
      | den d => cases d
  · cases e
    cases hd with
    | cons x t =>
      cases t
      obtain ⟨p, ws, rfl, hp, t⟩ := x.lstOf
      exact call_tuple_of pins s σ H _ us Q I r ⟨p, ws, rfl, .inl ⟨hp, fun l hl => q _ _ (.tup hl t)⟩⟩
  · cases e
    cases hd with
    | cons x t =>
      cases t
      have hx := x
      obtain ⟨p, ws, rfl, hp, t⟩ := x.tupOf
      exact call_tuple_of pins s σ H _ us Q I r ⟨p, ws, rfl, .inr ⟨hp, q _ _ (lst_same hx)⟩⟩
  · cases e
/-- len reads what stands there -/
theorem call_biH (b : Pv.Bi) (hc : X.calm = true) (hu : X.A.units + 66 < cLine) : CallR X (biV b) (rBi X.K b) := by
  intro pins s σ H vs us Q I r h
  obtain ⟨Z, fp, σ', S, hs, F, hh, R, hd, e, q⟩ := h
  have data : (match Pv.peeks hs S with | some xs => (match Pv.biD b xs with | some z => some (Pv.newH z) | none => none) | none => (none : Option Hd)) = some hh → wpAny (model X.prog X.w) X.A (call (biV b) us) (EP X pins σ Q) X.xe s := by
    intro e
    cases q1 : Pv.peeks hs S with
    | none => rw [q1] at e; cases e
    | some ds =>
      rw [q1] at e
      simp only at e
      cases q2 : Pv.biD b ds with
      | none => rw [q2] at e; cases e
      | some z =>
        rw [q2] at e
        cases e
        exact call_biD b hc hu pins s σ H vs us Q I r ⟨Z, ds, z, HdL.peeks R hd q1, q2, fun v H' n => q v H' z rfl n⟩
  have nokey : ∀ h, Pv.look h S ≠ none → (∃ v F, HdD X.K Z fp σ' H v h F) → Pv.keyH h S = none := by
    intro h hl ⟨v, F, d⟩
    unfold Pv.keyH
    cases q1 : Pv.look h S with
    | none => rfl
    | some o =>
      obtain ⟨G, dS, _⟩ := d.look R q1
      have hk : Pv.dKeys o = none := by
        cases dS with
        | val d => cases d <;> rfl
        | ol _ _ _ => rfl
      simp only [hk]
  unfold Pv.biH at e
  split at e
  · -- len
    rename_i h
    cases hd with
    | cons x t =>
      cases t
      cases q1 : Pv.look h S with
      | none => rw [q1] at e; cases e
      | some o =>
        rw [q1] at e
        simp only at e
        obtain ⟨G, dS, _⟩ := x.look R q1
        cases q2 : Pv.lenV o with
        | none => rw [q2] at e; cases e
        | some n =>
          rw [q2] at e
          cases e
          refine call_len pins s σ H _ us Q I r ⟨_, n, rfl, ?_, q _ _ (.int n) rfl new_int⟩
          cases dS with
          | @val v d hv =>
            cases d with
            | str w =>
              simp only [Pv.lenV] at q2
              split at q2
              · rename_i hz
                cases q2
                cases hv
                exact ⟨by rw [tx_length]; exact sizeOk_le hz, (tx_length _).symm⟩
              · cases q2
            | tup ds =>
              cases q2
              obtain ⟨p, ws, rfl, hp, t⟩ := hv.tupOf
              exact .inr ⟨ws, hp, t.length.symm⟩
            | lst ds =>
              cases q2
              obtain ⟨p, ws, rfl, hp, t⟩ := hv.lstOf
              exact .inl ⟨ws, hp, t.length.symm⟩
            | dct _ _ _ => cases hv
            | _ => cases q2
          | ol ea t n =>
            cases q2
            exact .inl ⟨_, .inl (.inl ea), t.length.symm⟩
  · rename_i hno
    cases q1 : Pv.peeks hs S with
    | some ds => rw [q1] at e; exact data (by rw [q1]; exact e)
    | none =>
      rw [q1] at e
      simp only at e
      split at e
      · rename_i h
        cases hd with
        | cons x t =>
          by_cases hl : Pv.look h S = none
          · have : Pv.keyH h S = none := by unfold Pv.keyH; rw [hl]
            rw [this] at e; cases e
          · rw [nokey h hl ⟨_, _, x⟩] at e
            cases e
      · cases e
/-! ### as calls -/
/-- the name of a built-in -/
inductive BiNm (X : Cx) : Pv.Bi → Str → Prop
  | fn {b : Pv.Bi} {x : Str} {id : String} : biV b = .builtin id → X.mg x = none → bootBuiltins x = some (.builtin id) → x ≠ "__name__" → BiNm X b x
  | ty {b : Pv.Bi} {x : Str} {id : String} : biV b = .type id → X.mg x = none → bootBuiltins x = some (.type id) → x ≠ "__name__" → BiNm X b x
  | mod {b : Pv.Bi} {x : Str} {id : String} : biV b = .builtin id → X.mg x = some (.builtin id) → BiNm X b x
abbrev fBi (b : Pv.Bi) (fs : Pv.St → Res (List Hd)) : Pv.St → Res Hd := fun S => Pv.rb (fs S) (fun hs S1 => Pv.lf (Pv.biH b hs S1) S1) ⟨⟩
theorem bi_read {K : PySem.W.Frag} {bb : Pv.Bi} {fs : Pv.St → Res (List Hd)} {σ : L2.St} {H : Hp} {Q : VK} (h : tOf K W (fBi bb fs) qa σ H Q) : tCB (rBi K bb) (tGen K W (ddL K) fs qa) σ H Q := by
  obtain ⟨Z, fp, S, R, e⟩ := h
  refine ⟨Z, fp, S, R, tEnd.bind e (fun z => z) fun hs S1 e1 vs H1 Z1 fp1 F1 R1 d1 s1 x1 nf1 e2 => ?_⟩
  cases q1 : Pv.biH bb hs S1 with
  | none => rw [q1] at e2; exact e2.elim
  | some hh =>
    rw [q1] at e2
    refine ⟨Z1, fp1, σ, S1, hs, F1, hh, R1, d1, q1, fun v H' z ez n => ?_⟩
    subst ez
    exact tEnd.newD R1 e2 v H' n
theorem ve_bi {bb : Pv.Bi} {x : Str} {es : List Expr} {fs : Pv.St → Res (List Hd)} {p : Pos} (hc : X.calm = true) (hu : X.A.units + 66 < cLine) (hg : Gl X x) (hb : BiNm X bb x) (ha : VA X W (e :: es) fs qa) (hdb : (x == ("__debug__" : Str)) = false)
    (he : starEach (e :: es) X.env = (false, eval e X.env) :: starEach es X.env) (hpl : (backTo pos (starEach es X.env)).any (·.1) = false) : VE X W (.Call (.Name x p) (e :: es) [] pos) (fBi bb fs) qa := by
  have hr := call_biH (X := X) bb hc hu
  cases hb with
  | fn h1 h2 h3 h4 => rw [h1] at hr; exact PE.imp (pe_callB hr hg h2 h3 ha h4 hdb he hpl) fun _ _ _ h => bi_read h
  | ty h1 h2 h3 h4 => rw [h1] at hr; exact PE.imp (pe_callTy hr hg h2 h3 ha h4 hdb he hpl) fun _ _ _ h => bi_read h
  | mod h1 h2 => rw [h1] at hr; exact PE.imp (pe_callBfun hr hg h2 ha hdb he hpl) fun _ _ _ h => bi_read h

/-! ### isinstance -/
def tyN : Pv.Ty → String
  | .int => "int"
  | .bool => "bool"
  | .str => "str"
  | .tuple => "tuple"
  | .list => "list"
  | .none => "NoneType"
  | .dict => "dict"
def tyD : D → Option String
  | .non => some "NoneType"
  | .bl _ => some "bool"
  | .int _ => some "int"
  | .str _ => some "str"
  | .tup _ => some "tuple"
  | .lst _ => some "list"
  | _ => none
theorem isTy_kit {d : D} {n : String} (h : tyD d = some n) (t : Pv.Ty) : kitB n (tyN t) = some (Pv.isTy t d) := by
  cases d <;> simp only [tyD, Option.some.injEq] at h <;> try cases h
  all_goals cases t <;> simp only [tyN, Pv.isTy] <;> decide +kernel
theorem DenR.tyX {K : PySem.W.Frag} {Z : AS} {H : Hp} {v : V} {d : D} (h : DenR K Z H v d) : ∃ n, tyD d = some n ∧ TyX K H v (.type n) := by
  have sqT : ∀ {a : Addr} {xs : List V}, SqT K H a xs → TyX K H (.ref a) (.type "tuple") := fun {a xs} h => by
    rcases h with h | ⟨o, its, n, e, c, _⟩
    · rcases h with h | ⟨o, h⟩
      · exact .base (.tup h)
      · exact .fTuple h
    · exact .kTuple e c
  have sqL : ∀ {a : Addr} {xs : List V}, SqL K H a xs → TyX K H (.ref a) (.type "list") := fun {a xs} h => by
    rcases h with h | ⟨o, its, n, e, c, _⟩
    · rcases h with h | ⟨o, h⟩
      · exact .base (.lst h)
      · exact .base (.frz h)
    · exact .kList e c
  cases h with
  | lst e t => exact ⟨_, rfl, .base (.lst e)⟩
  | den d =>
    cases d with
    | non => exact ⟨_, rfl, .base .non⟩
    | bl b => exact ⟨_, rfl, .base (.bl b)⟩
    | int b => exact ⟨_, rfl, .base (.int b)⟩
    | str b => exact ⟨_, rfl, .base (.str _)⟩
    | tup r z t => exact ⟨_, rfl, sqT (SqT.ofR r)⟩
    | tupK r t => exact ⟨_, rfl, sqT (SqT.ofK r)⟩
    | lst r z t => exact ⟨_, rfl, sqL (SqL.ofR r)⟩
    | lstK r t => exact ⟨_, rfl, sqL (SqL.ofK r)⟩
/-- isinstance(a, T), T a built-in type -/
theorem ve_isi1 {t : Pv.Ty} {x : Str} {p p2 : Pos} (hg : Gl X "isinstance") (hm : X.mg "isinstance" = none) (hv : bootBuiltins "isinstance" = some (.builtin "isinstance")) (ht : PE X (.Name x p2) (tC (.ty (tyN t)))) (ha : VE X W a f qa)
    (he : starEach [a, .Name x p2] X.env = (false, eval a X.env) :: starEach [.Name x p2] X.env) (he2 : starEach [.Name x p2] X.env = (false, eval (.Name x p2) X.env) :: starEach [] X.env) :
    VE X W (.Call (.Name "isinstance" p) [a, .Name x p2] [] pos) (fun S => Pv.rb (f S) (fun x S1 => (match Pv.peek x S1 with | some d => some (.ok (.d (.bl ([t].any fun t => Pv.isTy t d))) S1) | none => none)) ⟨⟩) qa := by
  refine PE.imp (pe_callB call_isi hg hm hv (pa_cons ha (pa_cons ht pa_nil he2) he) (by decide) (by decide) he (by rw [he2]; rfl)) fun σ H Q h => ?_
  obtain ⟨Z, fp, S, R, e⟩ := h
  refine ⟨Z, fp, S, R, tEnd.bind e (fun z => z) fun hx S1 e1 v H1 Z1 fp1 F1 R1 d1 s1 x1 nf1 e2 => ?_⟩
  have d1 : HdD X.K Z1 fp1 σ H1 v hx F1 := d1
  cases q1 : Pv.peek hx S1 with
  | none => rw [q1] at e2; exact e2.elim
  | some d =>
    rw [q1] at e2
    obtain ⟨n, hn, ty⟩ := (d1.peek R1 q1).tyX
    refine ⟨v, .ty (tyN t), .type n, .type (tyN t), Pv.isTy t d, rfl, .ty _, ty, kit_ty (isTy_kit hn t), ?_⟩
    have e3 : ([t].any fun t => Pv.isTy t d) = Pv.isTy t d := by simp
    rw [← e3]
    exact e2 _ H1 Z1 fp1 AS.no R1 .refl (fun _ => .refl) no_new (.d (.bl _))
end
end Ps
end

section
set_option Elab.async false
set_option linter.all false
set_option maxRecDepth 100000
set_option maxHeartbeats 4000000
/-! PvC: calls: what a def promises, how arguments are handed over and come back. -/
namespace Ps
open PySem PySem.Spec PyProof.Rows L2
open Pv (D SV Hd Stp Cxt Res Out Flow)

/-- a slot in front -/
def conF (G : AS) (Gs : Nat → AS) : Nat → AS
  | 0 => G
  | n + 1 => Gs n
def tlF (Gs : Nat → AS) : Nat → AS := fun i => Gs (i + 1)

section
variable {K : PySem.W.Frag} {Z Z' : AS} {fp fp' : Nat → AS} {S S' : Pv.St} {σ σ' : L2.St} {H H' : Hp}
/-- what is true of the footprints -/
structure Fr (Z : AS) (fp : Nat → AS) (H : Hp) : Prop where
  apart : ∀ i j a, fp i a → fp j a → i = j
  dis : ∀ i a, fp i a → ¬ Z a
  trk : ∀ a, Z a → ∃ o, H a = some o
theorem Rel.fr (R : Rel K Z fp S σ H) : Fr Z fp H := ⟨R.apart, R.dis, R.trk⟩
theorem Rel.nil (t : ∀ a, Z a → ∃ o, H a = some o) : Rel K Z (fun _ => AS.no) [] [] H :=
  ⟨rfl, fun i o e => by simp [Pv.sGet] at e, fun _ _ _ z => z, fun _ _ _ z => z.elim, fun _ _ z => z.elim, t⟩
theorem Rel.cons {v : V} {o : SV} {G : AS} (R : Rel K Z fp S σ H) (d : DenS K Z H v o G) (n1 : ∀ a, G a → ¬ Z a) (n2 : ∀ a, G a → ∀ i, ¬ fp i a) : Rel K Z (conF G fp) (some o :: S) (some v :: σ) H := by
  refine ⟨by simp [R.len], fun i o' e => ?_, fun i e a => ?_, fun i j a f g => ?_, fun i a f z => ?_, R.trk⟩
  · cases i with
    | zero =>
      simp only [Pv.sGet, Option.some.injEq] at e
      subst e
      exact ⟨v, rfl, d⟩
    | succ i => exact R.slot i o' e
  · cases i with
    | zero => simp [Pv.sGet] at e
    | succ i => exact R.unset i e a
  · cases i with
    | zero =>
      cases j with
      | zero => rfl
      | succ j => exact absurd g (n2 a f j)
    | succ i =>
      cases j with
      | zero => exact absurd f (n2 a g i)
      | succ j => rw [R.apart i j a f g]
  · cases i with
    | zero => exact n1 a f z
    | succ i => exact R.dis i a f z

/-! ### what a def promises -/
/-- the objects that were handed over, as they are in the end -/
inductive OutsR (K : PySem.W.Frag) (Z : AS) (H : Hp) : List Bool → List V → List SV → (Nat → AS) → Prop
  | nil {vs : List V} {fp : Nat → AS} : OutsR K Z H [] vs [] fp
  | out {rf : List Bool} {v : V} {vs : List V} {o : SV} {os : List SV} {fp : Nat → AS} : DenS K Z H v o (fp 0) → OutsR K Z H rf vs os (tlF fp) → OutsR K Z H (true :: rf) (v :: vs) (o :: os) fp
  | skip {rf : List Bool} {v : V} {vs : List V} {os : List SV} {fp : Nat → AS} : OutsR K Z H rf vs os (tlF fp) → OutsR K Z H (false :: rf) (v :: vs) os fp
def fEnd (K : PySem.W.Frag) (xc : Pv.Exc → Value) (rf : List Bool) (r : Option Pv.Fin) (Z : AS) (fp : Nat → AS) (vs : List V) (H : Hp) (Q : VK) (E : XK) : Prop :=
  match r with
  | none => False
  | some (.ok o outs) => ∀ v H' Z' fp' F, Stq Z fp H Z' fp' H' → Fr Z' fp' H' → OutsR K Z' H' rf vs outs fp' → DenS K Z' H' v o F → (∀ a, F a → ¬ Z' a ∧ ∀ i, ¬ fp' i a) → (∀ c, F c → (∃ j, fp j c) ∨ H c = none) → Q v H'
  | some (.exc x outs) => ∀ H' Z' fp', Stq Z fp H Z' fp' H' → Fr Z' fp' H' → OutsR K Z' H' rf vs outs fp' → E (xc x) none H'
/-- a def's promise, by its meaning; n: how many parameters -/
def spOf (K : PySem.W.Frag) (xc : Pv.Exc → Value) (n : Nat) (rf : List Bool) (call : List SV → Option Pv.Fin) : Sp := fun vs H Q E => vs.length = n ∧ ∃ Z fp ss, Rel K Z fp (ss.map some) (vs.map some) H ∧ fEnd K xc rf (call ss) Z fp vs H Q E

/-! ### the arguments, handed over -/
/-- what is handed over: S has the objects still; F: what the new ones own -/
inductive ArgsL (K : PySem.W.Frag) (Z : AS) (fp : Nat → AS) (S : Pv.St) (σ : L2.St) (H : Hp) : List Bool → List Hd → List V → List SV → AS → Prop
  | nil {rf : List Bool} : ArgsL K Z fp S σ H rf [] [] [] AS.no
  | val {rf : List Bool} {h : Hd} {v : V} {d : D} {hs : List Hd} {vs : List V} {os : List SV} {F : AS} : rf.headD false = false → Den K Z H v d → ArgsL K Z fp S σ H rf.tail hs vs os F → ArgsL K Z fp S σ H rf (h :: hs) (v :: vs) (.val d :: os) F
  | dat {rf : List Bool} {v : V} {d : D} {hs : List Hd} {vs : List V} {os : List SV} {F : AS} : rf.headD false = true → Den K Z H v d → ArgsL K Z fp S σ H rf.tail hs vs os F → ArgsL K Z fp S σ H rf (.d d :: hs) (v :: vs) (.val d :: os) F
  | own {rf : List Bool} {i : Nat} {p : List Stp} {r v : V} {o : SV} {hs : List Hd} {vs : List V} {os : List SV} {F : AS} : rf.headD false = true → σ[i]? = some (some r) → PathV H r p v → Pv.look (.at_ i p) S = some o → ArgsL K Z fp S σ H rf.tail hs vs os F → ArgsL K Z fp S σ H rf (.at_ i p :: hs) (v :: vs) (o :: os) F
  | new {rf : List Bool} {v : V} {o : SV} {G : AS} {hs : List Hd} {vs : List V} {os : List SV} {F : AS} : rf.headD false = true → DenS K Z H v o G → (∀ a, G a → ¬ Z a ∧ ∀ i, ¬ fp i a) → (∀ a, G a → ¬ F a) → ArgsL K Z fp S σ H rf.tail hs vs os F → ArgsL K Z fp S σ H rf (.fr o :: hs) (v :: vs) (o :: os) (fun a => G a ∨ F a)
/-- handles behind an escape -/
theorem HdL.move {G : AS} (mz : ∀ a, Z a → Z' a) (nz : ∀ a, Z' a → Z a ∨ G a ∨ ∃ i, fp i a) (nf : ∀ i a, fp' i a → fp i a) : ∀ {vs : List V} {hs : List Hd} {F : AS}, HdL K Z fp σ H vs hs F → (∀ a, F a → ¬ G a) → HdL K Z' fp' σ H vs hs F
  | _, _, _, .nil, _ => .nil
  | _, _, _, .cons x t n, dj => by
    refine .cons ?_ (HdL.move mz nz nf t fun a f => dj a (.inr f)) n
    cases x with
    | d d => exact .d (d.mono (fun _ _ _ e => e) mz)
    | at_ e p => exact .at_ e p
    | fr d n1 => exact .fr (d.mono (fun _ _ _ e => e) mz fun _ _ _ e => e) (own_esc n1 (fun a g => dj a (.inl g)) nz nf)
theorem hand_args {Z0 : AS} {fp0 : Nat → AS} {H0 : Hp} : ∀ {rf : List Bool} {hs : List Hd} {vs : List V} {F : AS} {Z : AS} {fp : Nat → AS} {S S1 : Pv.St} {os : List SV}, Rel K Z fp S σ H → HdL K Z fp σ H vs hs F → Pv.handArgs rf hs S = some (.ok os S1) → Stq Z0 fp0 H0 Z fp H → (∀ c, F c → (∃ j, fp0 j c) ∨ H0 c = none) →
    ∃ Z1 fp1 F1, Rel K Z1 fp1 S1 σ H ∧ Stq Z0 fp0 H0 Z1 fp1 H ∧ ArgsL K Z1 fp1 S1 σ H rf hs vs os F1 ∧ (∀ a, F1 a → F a) ∧ (∀ a, Z a → Z1 a) ∧ (∀ a, Z1 a → Z a ∨ F a ∨ ∃ i, fp i a) ∧ ∀ i a, fp1 i a → fp i a
  | rf, [], _, _, Z, fp, S, S1, os, R, .nil, e, s, nf => by
    simp only [Pv.handArgs, Option.some.injEq, Out.ok.injEq] at e
    obtain ⟨rfl, rfl⟩ := e
    exact ⟨Z, fp, AS.no, R, s, .nil, fun _ z => z, fun _ z => z, fun _ z => .inl z, fun _ _ z => z⟩
  | rf, h :: hs, _, _, Z, fp, S, S1, os, R, .cons (v := v) (vs := vs) (F := F) (G := G) x t n, e, s, nf => by
    simp only [Pv.handArgs] at e
    by_cases hb : rf.headD false = true
    · rw [if_pos hb] at e
      obtain ⟨os', S2, e1, e2⟩ := rb_some e
      obtain ⟨Z1, fp1, F1, R1, s1, A1, f1, mz, nz, nf1⟩ := hand_args R t e1 s fun c z => nf c (.inr z)
      cases h with
      | d d =>
        simp only [Pv.look, Option.some.injEq, Out.ok.injEq] at e2
        obtain ⟨rfl, rfl⟩ := e2
        exact ⟨Z1, fp1, F1, R1, s1, .dat hb (x.dOf.1.mono (fun _ _ _ e => e) mz) A1, fun a z => .inr (f1 a z), mz, fun a z => (nz a z).imp_right fun z => z.imp_left .inr, nf1⟩
      | fr o =>
        simp only [Pv.look, Option.some.injEq, Out.ok.injEq] at e2
        obtain ⟨rfl, rfl⟩ := e2
        obtain ⟨d, m⟩ := x.frOf
        exact ⟨Z1, fp1, _, R1, s1, .new hb (d.mono (fun _ _ _ e => e) mz fun _ _ _ e => e) (own_esc m (fun a g => n a g) nz nf1) (fun a g f => n a g (f1 a f)) A1, fun a z => z.imp_right (f1 a), mz, fun a z => (nz a z).imp_right fun z => z.imp_left .inr, nf1⟩
      | at_ i p =>
        cases q : Pv.look (.at_ i p) S2 with
        | none => rw [q] at e2; cases e2
        | some o =>
          rw [q] at e2
          simp only [Option.some.injEq, Out.ok.injEq] at e2
          obtain ⟨rfl, rfl⟩ := e2
          obtain ⟨⟨r, e3, pv⟩, _⟩ := x.atOf
          exact ⟨Z1, fp1, F1, R1, s1, .own hb e3 pv q A1, fun a z => .inr (f1 a z), mz, fun a z => (nz a z).imp_right fun z => z.imp_left .inr, nf1⟩
    · rw [if_neg hb] at e
      obtain ⟨d, S2, e1, e2⟩ := rb_some e
      obtain ⟨os', S3, e3, e4⟩ := rb_some e2
      simp only [Option.some.injEq, Out.ok.injEq] at e4
      obtain ⟨rfl, rfl⟩ := e4
      obtain ⟨Z2, fp2, R2, s2, dd, mz2, nz2, nf2⟩ := esc_ok R x s (fun c z => nf c (.inl z)) e1
      obtain ⟨Z1, fp1, F1, R1, s1, A1, f1, mz, nz, nf1⟩ := hand_args R2 (t.move mz2 nz2 nf2 fun a g f => n a f g) e3 s2 fun c z => nf c (.inr z)
      refine ⟨Z1, fp1, F1, R1, s1, .val (by simpa using hb) (dd.mono (fun _ _ _ e => e) mz) A1, fun a z => .inr (f1 a z), fun a z => mz a (mz2 a z), fun a z => ?_, fun i a z => nf2 i a (nf1 i a z)⟩
      rcases nz a z with z | z | ⟨i, z⟩
      · exact (nz2 a z).imp_right fun z => z.imp_left .inl
      · exact .inr (.inl (.inr z))
      · exact .inr (.inr ⟨i, nf2 i a z⟩)
/-! ### what comes back -/
/-- how the objects come back to their places; fpT: what the slots keep meanwhile -/
inductive Backs (K : PySem.W.Frag) (Z : AS) (σ : L2.St) (S : Pv.St) (H : Hp) (fpT : Nat → AS) : List Bool → List Hd → List V → Prop
  | nil {rf : List Bool} : Backs K Z σ S H fpT rf [] []
  | skip {rf : List Bool} {h : Hd} {v : V} {hs : List Hd} {vs : List V} : rf.headD false = false → Backs K Z σ S H fpT rf.tail hs vs → Backs K Z σ S H fpT rf (h :: hs) (v :: vs)
  | thru {rf : List Bool} {h : Hd} {v : V} {hs : List Hd} {vs : List V} : rf.headD false = true → (∀ i p, h ≠ .at_ i p) → Backs K Z σ S H fpT rf.tail hs vs → Backs K Z σ S H fpT rf (h :: hs) (v :: vs)
  | own {rf : List Bool} {i : Nat} {p : List Stp} {r v : V} {s : SV} {hs : List Hd} {vs : List V} : rf.headD false = true → i ∉ Pv.handed rf.tail hs → Pv.sGet S i = some s → σ[i]? = some (some r) →
      (∀ (Z' : AS) (H' : Hp) (out o' : SV) (G' : AS), (∀ a u, Z a → H a = some u → H' a = some u) → (∀ a, Z a → Z' a) → (∀ a u, fpT i a → H a = some u → H' a = some u) → DenS K Z' H' v out G' → (∀ a, G' a → ¬ fpT i a) → Pv.setP s p out = some o' → ∃ F', DenS K Z' H' r o' F' ∧ ∀ a, F' a ↔ G' a ∨ fpT i a) →
      Backs K Z σ S H fpT rf.tail hs vs → Backs K Z σ S H fpT rf (.at_ i p :: hs) (v :: vs)
theorem Backs.congr {fpT fpU : Nat → AS} : ∀ {rf : List Bool} {hs : List Hd} {vs : List V}, Backs K Z σ S H fpT rf hs vs → (∀ j, j ∈ Pv.handed rf hs → fpT j = fpU j) → Backs K Z σ S H fpU rf hs vs
  | _, _, _, .nil, _ => .nil
  | rf, _, _, .skip hb t, h => .skip hb (Backs.congr t fun j m => h j (by simp only [Pv.handed]; rw [if_neg (by rw [hb]; exact Bool.false_ne_true)]; exact m))
  | rf, h' :: _, _, .thru hb hn t, h => .thru hb hn (Backs.congr t fun j m => h j (by
      simp only [Pv.handed]; rw [if_pos hb]
      cases h' with
      | at_ i p => exact absurd rfl (hn i p)
      | d _ => exact m
      | fr _ => exact m))
  | rf, .at_ i p :: _, _, .own hb hi hs hr go t, h => by
    have e : fpT i = fpU i := h i (by simp only [Pv.handed]; rw [if_pos hb]; exact List.mem_cons_self)
    rw [e] at go
    exact .own hb hi hs hr go (Backs.congr t fun j m => h j (by simp only [Pv.handed]; rw [if_pos hb]; exact List.mem_cons_of_mem _ m))
theorem handed_false {rf : List Bool} {h : Hd} {hs : List Hd} (hb : rf.headD false = false) : Pv.handed rf (h :: hs) = Pv.handed rf.tail hs := by
  simp only [Pv.handed]; rw [if_neg (by rw [hb]; exact Bool.false_ne_true)]
theorem handed_at {rf : List Bool} {i : Nat} {p : List Stp} {hs : List Hd} (hb : rf.headD false = true) : Pv.handed rf (.at_ i p :: hs) = i :: Pv.handed rf.tail hs := by
  simp only [Pv.handed]; rw [if_pos hb]
theorem handed_d {rf : List Bool} {d : D} {hs : List Hd} (hb : rf.headD false = true) : Pv.handed rf (.d d :: hs) = Pv.handed rf.tail hs := by
  simp only [Pv.handed]; rw [if_pos hb]
theorem handed_fr {rf : List Bool} {d : SV} {hs : List Hd} (hb : rf.headD false = true) : Pv.handed rf (.fr d :: hs) = Pv.handed rf.tail hs := by
  simp only [Pv.handed]; rw [if_pos hb]
theorem conF_le {P : AS} {G : AS} {Gs : Nat → AS} (h0 : ∀ a, G a → P a) (h1 : ∀ i a, Gs i a → P a) : ∀ i a, conF G Gs i a → P a
  | 0, a, h => h0 a h
  | i + 1, a, h => h1 i a h
theorem args_rel (R : Rel K Z fp S σ H) : ∀ {rf : List Bool} {hs : List Hd} {vs : List V} {os : List SV} {F : AS}, ArgsL K Z fp S σ H rf hs vs os F → Pv.noTwice (Pv.handed rf hs) = true →
    ∃ fpc fpT, Rel K Z fpc (os.map some) (vs.map some) H ∧ (∀ i a, fpc i a → F a ∨ ∃ j, j ∈ Pv.handed rf hs ∧ fp j a) ∧ (∀ j, j ∉ Pv.handed rf hs → fpT j = fp j) ∧ (∀ j a, fpT j a → fp j a) ∧ (∀ j k a, fpT j a → ¬ fpc k a) ∧ (∀ a, F a → ¬ Z a ∧ ∀ i, ¬ fp i a) ∧ Backs K Z σ S H fpT rf hs vs
  | rf, _, _, _, _, .nil, _ => ⟨fun _ => AS.no, fp, Rel.nil R.trk, fun _ _ z => z.elim, fun _ _ => rfl, fun _ _ z => z, fun _ _ _ _ z => z, fun _ z => z.elim, .nil⟩
  | rf, _, _, _, _, .val hb d t, nt => by
    rw [handed_false hb] at nt ⊢
    obtain ⟨fpc, fpT, R1, b1, b2, b3, b4, b5, B⟩ := args_rel R t nt
    exact ⟨conF AS.no fpc, fpT, R1.cons (.val d) (fun _ z => z.elim) (fun _ z => z.elim), conF_le (fun _ z => z.elim) b1, b2, b3, fun j k a f => by cases k with | zero => exact fun z => z | succ k => exact b4 j k a f, b5, .skip hb B⟩
  | rf, _, _, _, _, .dat hb d t, nt => by
    rw [handed_d hb] at nt ⊢
    obtain ⟨fpc, fpT, R1, b1, b2, b3, b4, b5, B⟩ := args_rel R t nt
    exact ⟨conF AS.no fpc, fpT, R1.cons (.val d) (fun _ z => z.elim) (fun _ z => z.elim), conF_le (fun _ z => z.elim) b1, b2, b3, fun j k a f => by cases k with | zero => exact fun z => z | succ k => exact b4 j k a f, b5, .thru hb (fun _ _ => nofun) B⟩
  | rf, _, _, _, _, .new (G := G) hb d n m t, nt => by
    rw [handed_fr hb] at nt ⊢
    obtain ⟨fpc, fpT, R1, b1, b2, b3, b4, b5, B⟩ := args_rel R t nt
    refine ⟨conF G fpc, fpT, R1.cons d (fun a g => (n a g).1) fun a g i f => ?_, conF_le (fun _ z => .inl (.inl z)) fun i a z => (b1 i a z).imp_left .inr, b2, b3, fun j k a f => ?_, fun a z => z.elim (n a) (b5 a), .thru hb (fun _ _ => nofun) B⟩
    · rcases b1 i a f with z | ⟨j, _, z⟩
      · exact m a g z
      · exact (n a g).2 j z
    · cases k with
      | zero => exact fun z => (n a z).2 j (b3 j a f)
      | succ k => exact b4 j k a f
  | rf, _, _, _, _, .own (i := i) (p := p) hb e1 pv lk t, nt => by
    rw [handed_at hb] at nt ⊢
    simp only [Pv.noTwice, Bool.and_eq_true, Bool.not_eq_true'] at nt
    have hi : i ∉ Pv.handed rf.tail _ := fun z => by
      have := List.contains_iff_mem.mpr z
      rw [nt.1] at this; cases this
    obtain ⟨fpc, fpT, R1, b1, b2, b3, b4, b5, B⟩ := args_rel R t nt.2
    obtain ⟨s, hs, hq⟩ := look_at lk
    obtain ⟨v', e2, dS⟩ := R.slot i s hs
    rw [e1] at e2
    cases e2
    obtain ⟨G, Rr, dG, eF, dj, go⟩ := dS.focus hq pv
    have gf : ∀ a, G a → fp i a := fun a z => (eF a).mpr (.inl z)
    have rf' : ∀ a, Rr a → fp i a := fun a z => (eF a).mpr (.inr z)
    have tl : ∀ k a, fpc k a → ¬ fp i a := fun k a f z => by
      rcases b1 k a f with y | ⟨j, hj, y⟩
      · exact (b5 a y).2 i z
      · have := R.apart i j a z y
        subst this
        exact hi hj
    refine ⟨conF G fpc, fun j => if j = i then Rr else fpT j, R1.cons dG (fun a g => R.dis i a (gf a g)) fun a g k f => tl k a f (gf a g), conF_le (fun a z => .inr ⟨i, List.mem_cons_self, gf a z⟩) fun k a z => (b1 k a z).imp_right fun ⟨j, hj, y⟩ => ⟨j, List.mem_cons_of_mem _ hj, y⟩, fun j hj => ?_, fun j a f => ?_, fun j k a f => ?_, b5, ?_⟩
    · rw [List.mem_cons, not_or] at hj
      show (if j = i then Rr else fpT j) = fp j
      rw [if_neg hj.1]
      exact b2 j hj.2
    · have f : (if j = i then Rr else fpT j) a := f
      by_cases h : j = i
      · rw [if_pos h] at f; rw [h]; exact rf' a f
      · rw [if_neg h] at f; exact b3 j a f
    · have f : (if j = i then Rr else fpT j) a := f
      by_cases h : j = i
      · rw [if_pos h] at f
        cases k with
        | zero => exact fun z => dj a z f
        | succ k => exact fun z => tl k a z (rf' a f)
      · rw [if_neg h] at f
        cases k with
        | zero => exact fun z => h (R.apart j i a (b3 j a f) (gf a z))
        | succ k => exact b4 j k a f
    · refine .own hb hi hs e1 (fun Z' H' out o' G' kz mz kr d' dj' e' => ?_) (B.congr fun j hj => ?_)
      · have kr : ∀ a u, Rr a → H a = some u → H' a = some u := fun a u z => kr a u (by show (if i = i then Rr else fpT i) a; rw [if_pos rfl]; exact z)
        have dj' : ∀ a, G' a → ¬ Rr a := fun a g z => dj' a g (by show (if i = i then Rr else fpT i) a; rw [if_pos rfl]; exact z)
        obtain ⟨F', d2, e2⟩ := go Z' H' out o' G' kz mz kr d' dj' e'
        refine ⟨F', d2, fun a => ?_⟩
        show F' a ↔ G' a ∨ (if i = i then Rr else fpT i) a
        rw [if_pos rfl]
        exact e2 a
      · show fpT j = if j = i then Rr else fpT j
        have hne : j ≠ i := fun z => hi (z ▸ hj)
        rw [if_neg hne]
/-- the slots but for those at T -/
structure RelT (K : PySem.W.Frag) (T : List Nat) (Z : AS) (fp : Nat → AS) (S : Pv.St) (σ : L2.St) (H : Hp) : Prop where
  len : σ.length = S.length
  slot : ∀ i o, Pv.sGet S i = some o → i ∉ T → ∃ v, σ[i]? = some (some v) ∧ DenS K Z H v o (fp i)
  unset : ∀ i, Pv.sGet S i = none → ∀ a, ¬ fp i a
  apart : ∀ i j a, fp i a → fp j a → i = j
  dis : ∀ i a, fp i a → ¬ Z a
  trk : ∀ a, Z a → ∃ o, H a = some o
theorem back_ok {S0 : Pv.St} {fpT : Nat → AS} {Z H : _} (kz : ∀ a u, Z a → H a = some u → H' a = some u) (mz : ∀ a, Z a → Z' a) (kr : ∀ i a u, fpT i a → H a = some u → H' a = some u) : ∀ {rf : List Bool} {hs : List Hd} {vs : List V} {outs : List SV} {fpc fpS : Nat → AS} {S S2 : Pv.St},
    Backs K Z σ S0 H fpT rf hs vs → OutsR K Z' H' rf vs outs fpc → RelT K (Pv.handed rf hs) Z' fpS S σ H' → (∀ j, j ∈ Pv.handed rf hs → Pv.sGet S j = Pv.sGet S0 j ∧ fpS j = fpT j) → (∀ k j a, fpc k a → ¬ fpS j a) → (∀ k l a, fpc k a → fpc l a → k = l) → (∀ k a, fpc k a → ¬ Z' a) → Pv.backArgs rf hs outs S = some S2 →
      ∃ fp2, Rel K Z' fp2 S2 σ H' ∧ ∀ j a, fp2 j a → fpS j a ∨ ∃ k, fpc k a
  | rf, _, _, outs, fpc, fpS, S, S2, .nil, O, R, _, _, _, _, e => by
    simp only [Pv.backArgs, Option.some.injEq] at e
    subst e
    exact ⟨fpS, ⟨R.len, fun i o e => R.slot i o e (by simp [Pv.handed]), R.unset, R.apart, R.dis, R.trk⟩, fun _ _ z => .inl z⟩
  | rf, _ :: hs, _ :: vs, outs, fpc, fpS, S, S2, .skip hb B, O, R, h1, h2, h3, h4, e => by
    rw [handed_false hb] at R h1
    simp only [Pv.backArgs] at e
    rw [if_neg (by rw [hb]; exact Bool.false_ne_true)] at e
    cases O with
    | nil => exact back_ok kz mz kr B .nil R h1 h2 h3 h4 e
    | out _ _ => cases hb
    | skip O =>
      obtain ⟨fp2, R2, b⟩ := back_ok kz mz kr B O R h1 (fun k => h2 (k + 1)) (fun k l a f g => Nat.succ.inj (h3 (k + 1) (l + 1) a f g)) (fun k => h4 (k + 1)) e
      exact ⟨fp2, R2, fun j a z => (b j a z).imp_right fun ⟨k, y⟩ => ⟨k + 1, y⟩⟩
  | rf, h :: hs, _ :: vs, outs, fpc, fpS, S, S2, .thru hb hn B, O, R, h1, h2, h3, h4, e => by
    have eh : Pv.handed rf (h :: hs) = Pv.handed rf.tail hs := by
      cases h with
      | at_ i p => exact absurd rfl (hn i p)
      | d _ => exact handed_d hb
      | fr _ => exact handed_fr hb
    rw [eh] at R h1
    simp only [Pv.backArgs] at e
    rw [if_pos hb] at e
    cases O with
    | nil => cases hb
    | skip _ => cases hb
    | @out rf' _ _ o os _ dO O =>
      have e' : Pv.backArgs rf' hs os S = some S2 := by
        cases h with
        | at_ i p => exact absurd rfl (hn i p)
        | d _ => exact e
        | fr _ => exact e
      obtain ⟨fp2, R2, b⟩ := back_ok kz mz kr B O R h1 (fun k => h2 (k + 1)) (fun k l a f g => Nat.succ.inj (h3 (k + 1) (l + 1) a f g)) (fun k => h4 (k + 1)) e'
      exact ⟨fp2, R2, fun j a z => (b j a z).imp_right fun ⟨k, y⟩ => ⟨k + 1, y⟩⟩
  | rf, .at_ i p :: hs, v :: vs, outs, fpc, fpS, S, S2, .own (s := s) (r := r) hb hi hs0 hr go B, O, R, h1, h2, h3, h4, e => by
    rw [handed_at hb] at R h1
    simp only [Pv.backArgs] at e
    rw [if_pos hb] at e
    cases O with
    | nil => cases hb
    | skip _ => cases hb
    | @out rf' _ _ o os _ dO O =>
      simp only at e
      have e : Pv.ob (Pv.put i p o S) (fun S1 => Pv.backArgs rf' hs os S1) ⟨⟩ = some S2 := e
      cases q : Pv.put i p o S with
      | none => rw [q] at e; cases e
      | some S1 =>
        rw [q] at e
        have e : Pv.backArgs rf' hs os S1 = some S2 := e
        obtain ⟨g1, g2⟩ := h1 i List.mem_cons_self
        have hsi : Pv.sGet S i = some s := by rw [g1]; exact hs0
        obtain ⟨o', ho', rfl⟩ := put_at hsi q
        have hlt := sGet_lt hsi
        have dj0 : ∀ a, fpc 0 a → ¬ fpT i a := fun a f z => h2 0 i a f (by rw [g2]; exact z)
        obtain ⟨F', dF, eF⟩ := go Z' H' o o' (fpc 0) kz mz (kr i) dO dj0 ho'
        have R1 : RelT K (Pv.handed rf' hs) Z' (fun j => if j = i then F' else fpS j) (S.set i (some o')) σ H' := by
          refine ⟨by rw [List.length_set]; exact R.len, fun j o1 e1 nj => ?_, fun j e1 a => ?_, fun j l a f g => ?_, fun j a f z => ?_, R.trk⟩
          · rw [sGet_set] at e1
            by_cases h : j = i
            · subst h
              rw [if_pos ⟨rfl, hlt⟩, Option.some.injEq] at e1
              subst e1
              exact ⟨r, hr, by rw [if_pos rfl]; exact dF⟩
            · rw [if_neg (fun z => h z.1.symm)] at e1
              rw [if_neg h]
              exact R.slot j o1 e1 fun z => (List.mem_cons.mp z).elim h nj
          · rw [sGet_set] at e1
            by_cases h : j = i
            · subst h
              rw [if_pos ⟨rfl, hlt⟩] at e1
              cases e1
            · rw [if_neg (fun z => h z.1.symm)] at e1
              rw [if_neg h]
              exact R.unset j e1 a
          · have key : ∀ j l, j ≠ i → (if j = i then F' else fpS j) a → (if l = i then F' else fpS l) a → l = i → False := fun j l hj f g hl => by
              rw [if_neg hj] at f
              rw [if_pos hl] at g
              rcases (eF a).mp g with z | z
              · exact h2 0 j a z f
              · exact hj (R.apart j i a f (by rw [g2]; exact z))
            by_cases hj : j = i
            · by_cases hl : l = i
              · rw [hj, hl]
              · exact (key l j hl g f hj).elim
            · by_cases hl : l = i
              · exact (key j l hj f g hl).elim
              · have f : (if j = i then F' else fpS j) a := f
                have g : (if l = i then F' else fpS l) a := g
                rw [if_neg hj] at f
                rw [if_neg hl] at g
                exact R.apart j l a f g
          · have f : (if j = i then F' else fpS j) a := f
            by_cases hj : j = i
            · rw [if_pos hj] at f
              rcases (eF a).mp f with y | y
              · exact h4 0 a y z
              · exact R.dis i a (by rw [g2]; exact y) z
            · rw [if_neg hj] at f
              exact R.dis j a f z
        have k1 : ∀ j, j ∈ Pv.handed rf' hs → Pv.sGet (S.set i (some o')) j = Pv.sGet S0 j ∧ (fun j => if j = i then F' else fpS j) j = fpT j := fun j hj => by
          have hne : j ≠ i := fun z => hi (z ▸ hj)
          obtain ⟨k1, k2⟩ := h1 j (List.mem_cons_of_mem _ hj)
          refine ⟨?_, ?_⟩
          · rw [sGet_set, if_neg (fun z => hne z.1.symm)]
            exact k1
          · show (if j = i then F' else fpS j) = fpT j
            rw [if_neg hne]
            exact k2
        have k2 : ∀ k j a, tlF fpc k a → ¬ (fun j => if j = i then F' else fpS j) j a := fun k j a f g => by
          have g : (if j = i then F' else fpS j) a := g
          by_cases hj : j = i
          · rw [if_pos hj] at g
            rcases (eF a).mp g with y | y
            · exact absurd (h3 (k + 1) 0 a f y) (Nat.succ_ne_zero k)
            · exact h2 (k + 1) i a f (by rw [g2]; exact y)
          · rw [if_neg hj] at g
            exact h2 (k + 1) j a f g
        obtain ⟨fp2, R2, b⟩ := back_ok kz mz kr B O R1 k1 k2 (fun k l a f g => Nat.succ.inj (h3 (k + 1) (l + 1) a f g)) (fun k => h4 (k + 1)) e
        refine ⟨fp2, R2, fun j a z => ?_⟩
        rcases b j a z with y | ⟨k, y⟩
        · have y : (if j = i then F' else fpS j) a := y
          by_cases hj : j = i
          · rw [if_pos hj] at y
            rcases (eF a).mp y with y | y
            · exact .inr ⟨0, y⟩
            · exact .inl (by rw [hj, g2]; exact y)
          · rw [if_neg hj] at y
            exact .inl y
        · exact .inr ⟨k + 1, y⟩
end
end Ps
end

section
set_option Elab.async false
set_option linter.all false
set_option maxRecDepth 100000
set_option maxHeartbeats 4000000
/-! PvC2: the rule of a call. -/
namespace Ps
open PySem PySem.Spec PyProof.Rows L2
open Pv (D SV Hd Stp Cxt Res Out Flow)

/-- the wish about exceptions, by their numbers; xc: the classes -/
def wx (xc : Pv.Exc → Value) (W : WE) : WX := fun cls d σ H => ∃ x, cls = xc x ∧ d = none ∧ W x σ H
section
variable {X : Cx} {k : Nat} {f : Addr} {fd : FuncData} {ps : List Str} {sp : Sp} {dvs : List V} {ds : List Value} {x : Str} {p pos : Pos} {e : Expr} {es : List Expr} {t : TA} {Wx : WX}
/-- run_fn with a wish by the state's slots -/
theorem run_fnX {pins : List (Addr × Obj)} {σ : L2.St} {H : Hp} {s : Shared} {Q : VK} {us : List Value} {vs : List V} (F : FnOk X.prog X.w X.K X.mg X.base (L2.CX X.prog X.w) k f fd ps sp) (hr : Room k X.A) (hb : Binds X.K fd ps ds) (hd : Vals dvs ds) (tk : Takes X Wx)
    (I : L2.Inv X pins σ H s) (r : Vals vs us) (h : sp (vs ++ dvs) H Q fun cls d H' => Wx cls d σ H') : wpAny (model X.prog X.w) X.A (call (.ref f) us) (EP X pins σ Q) X.xe s := by
  have r2 : Vals (vs ++ dvs) (us ++ ds) := r.append hd
  have hl : (us ++ ds).length = ps.length := by rw [← r2.length]; exact F.len _ _ _ _ h
  refine wpAny_call (codeAny_mono (F.run X.A X.stack s H ⟨us, []⟩ (us ++ ds) (vs ++ dvs) Q _ hr I.env0 (hb s us I.kIn hl) r2 h) fun r s' hq => ?_)
  cases r with
  | error e => exact tk e s' (XE.of_call I (fun _ _ _ h => h) hq)
  | ok fl =>
    cases fl with
    | ret u => exact I.after hq
    | next => exact False.elim hq
    | brk => exact False.elim hq
    | cont => exact False.elim hq
def tCallX (sp : Sp) (dvs : List V) (Wx : WX) (t : TA) : TE := fun σ H Q => t σ H fun vs H1 => sp (vs ++ dvs) H1 Q fun cls d H' => Wx cls d σ H'
theorem pe_callX (F : FnOk X.prog X.w X.K X.mg X.base (L2.CX X.prog X.w) k f fd ps sp) (hr : Room k X.A) (hg : Gl X x) (hm : X.mg x = some (.ref f)) (hk : PySem.W.keepIn X.K (.ref f) = true) (hb : Binds X.K fd ps ds) (hd : Vals dvs ds) (tk : Takes X Wx)
    (ha : PA X (e :: es) t) (hdb : (x == ("__debug__" : Str)) = false) (he : starEach (e :: es) X.env = (false, eval e X.env) :: starEach es X.env) (hpl : (backTo pos (starEach es X.env)).any (·.1) = false) :
    PE X (.Call (.Name x p) (e :: es) [] pos) (tCallX sp dvs Wx t) := by
  refine ⟨fun pins s σ H Q I h => ?_⟩
  refine wpAny_Call_Name_kw (ld_glob I hg hm ?_ hdb)
  refine PySem.W.callWith_K (h₀ := X.base) I.ok.mod.kin hk (thn (ha.run pos pins s σ H _ I h) fun us s1 ⟨vs, H1, I1, r, q⟩ => ⟨I1.kIn, ?_⟩) he hpl
  exact run_fnX F hr hb hd tk I1 r q
theorem pe_callX0 (F : FnOk X.prog X.w X.K X.mg X.base (L2.CX X.prog X.w) k f fd ps sp) (hr : Room k X.A) (hg : Gl X x) (hm : X.mg x = some (.ref f)) (hk : PySem.W.keepIn X.K (.ref f) = true) (hb : Binds X.K fd ps ds) (hd : Vals dvs ds) (tk : Takes X Wx)
    (hdb : (x == ("__debug__" : Str)) = false) : PE X (.Call (.Name x p) [] [] pos) (tCallX sp dvs Wx tNil) := by
  refine ⟨fun pins s σ H Q I h => ?_⟩
  refine wpAny_Call_Name_kw (ld_glob I hg hm ?_ hdb)
  exact PySem.W.callWith_K0 I.kIn hk (run_fnX (us := []) F hr hb hd tk I .nil h)
end

section
variable {K : PySem.W.Frag} {Z0 Z : AS} {fp0 fp : Nat → AS} {S S' : Pv.St} {σ : L2.St} {H0 H : Hp} {W : WE} {q : Bool}
theorem no_exc_hand : ∀ {rf : List Bool} {hs : List Hd} {S : Pv.St} {x : Pv.Exc} {S' : Pv.St}, Pv.handArgs rf hs S ≠ some (.exc x S')
  | rf, [], S, x, S', e => by simp [Pv.handArgs] at e
  | rf, h :: hs, S, x, S', e => by
    simp only [Pv.handArgs] at e
    split at e
    · cases q : Pv.handArgs rf.tail hs S with
      | none => rw [q] at e; cases e
      | some r =>
        cases r with
        | exc y S2 => exact no_exc_hand q
        | ok a S2 =>
          rw [q] at e
          simp only [Pv.rb_ok] at e
          split at e <;> simp at e
    · cases q : Pv.esc h S with
      | none => rw [q] at e; cases e
      | some r =>
        cases r with
        | exc y S2 => exact esc_no_exc _ _ _ _ q
        | ok a S2 =>
          rw [q] at e
          simp only [Pv.rb_ok] at e
          cases q2 : Pv.handArgs rf.tail hs S2 with
          | none => rw [q2] at e; cases e
          | some r =>
            cases r with
            | exc y S3 => exact no_exc_hand q2
            | ok b S3 => rw [q2] at e; simp [Pv.rb_ok] at e
/-- the callee's promise from a call's meaning -/
theorem call_promise {xc : Pv.Exc → Value} {C : Cxt} {g n : Nat} {hs : List Hd} {vs : List V} {F : AS} {Q : VK} (hn : ∀ vs, C.call g vs ≠ none → vs.length = n) (R : Rel K Z fp S σ H) (d : HdL K Z fp σ H vs hs F) (s0 : Stq Z0 fp0 H0 Z fp H) (nf : ∀ c, F c → (∃ j, fp0 j c) ∨ H0 c = none)
    (e : tEnd K W (ddE K) (Pv.callH C g hs S) Z0 fp0 σ H0 false Q) : spOf K xc n (C.rf g) (C.call g) vs H Q fun cls d H' => wx xc W cls d σ H' := by
  unfold Pv.callH at e
  split at e
  · rename_i hnt
    cases h1 : Pv.handArgs (C.rf g) hs S with
    | none => rw [h1] at e; exact e.elim
    | some r =>
      cases r with
      | exc x S1 => exact absurd h1 no_exc_hand
      | ok os S1 =>
        rw [h1, Pv.rb_ok] at e
        obtain ⟨Z1, fp1, F1, R1, s1, A1, f1, _, _, _⟩ := hand_args R d h1 s0 nf
        obtain ⟨fpc, fpT, Rc, b1, b2, b3, b4, b5, B⟩ := args_rel R1 A1 hnt
        have len : os.length = vs.length := by have := Rc.len; rw [List.length_map, List.length_map] at this; exact this.symm
        have hnn : C.call g os ≠ none := fun z => by rw [z] at e; exact e
        refine ⟨by rw [← len]; exact hn _ hnn, Z1, fpc, os, Rc, ?_⟩
        -- what the callee may change is ours or new
        have cb : ∀ k a, fpc k a → (∃ j, fp0 j a) ∨ H0 a = none := fun k a f => by
          rcases b1 k a f with y | ⟨j, _, y⟩
          · exact nf a (f1 a y)
          · exact s1.newf j a y
        have post : ∀ {outs : List SV} {S2 : Pv.St} {Z' : AS} {fp' : Nat → AS} {H' : Hp}, Pv.backArgs (C.rf g) hs outs S1 = some S2 → Stq Z1 fpc H Z' fp' H' → Fr Z' fp' H' → OutsR K Z' H' (C.rf g) vs outs fp' →
            ∃ fp2, Rel K Z' fp2 S2 σ H' ∧ Stq Z0 fp0 H0 Z' fp2 H' ∧ ∀ j a, fp2 j a → fpT j a ∨ ∃ k, fp' k a := fun {outs S2 Z' fp' H'} hb sc fr O => by
          have kz : ∀ a u, Z1 a → H a = some u → H' a = some u := fun a u z e => sc.keep a u e fun k f => Rc.dis k a f z
          have kr : ∀ i a u, fpT i a → H a = some u → H' a = some u := fun i a u f e => sc.keep a u e fun k g => b4 i k a f g
          have RT : RelT K (Pv.handed (C.rf g) hs) Z' fpT S1 σ H' := by
            refine ⟨R1.len, fun i o e hi => ?_, fun i e a f => R1.unset i e a (b3 i a f), fun i j a f g => R1.apart i j a (b3 i a f) (b3 j a g), fun i a f z => ?_, fr.trk⟩
            · obtain ⟨v, e1, dS⟩ := R1.slot i o e
              refine ⟨v, e1, ?_⟩
              rw [b2 i hi]
              exact dS.mono kz sc.mono fun a u f => kr i a u (by rw [b2 i hi]; exact f)
            · obtain ⟨u, eu⟩ := R1.own_trk (b3 i a f)
              rcases sc.newz a z with z | ⟨k, z⟩ | z
              · exact R1.dis i a (b3 i a f) z
              · exact b4 i k a f z
              · rw [z] at eu; cases eu
          have apt : ∀ k j a, fp' k a → ¬ fpT j a := fun k j a f g => by
            rcases sc.newf k a f with ⟨l, y⟩ | y
            · exact b4 j l a g y
            · obtain ⟨u, eu⟩ := R1.own_trk (b3 j a g)
              rw [y] at eu; cases eu
          obtain ⟨fp2, R2, b⟩ := back_ok kz sc.mono kr B O RT (fun j _ => ⟨rfl, rfl⟩) apt fr.apart fr.dis hb
          · refine ⟨fp2, R2, ⟨fun a z => sc.mono a (s1.mono a z), fun a z => ?_, fun j a f => ?_, fun a u e n => ?_, fun a e => s1.there a (sc.there a e)⟩, b⟩
            · rcases sc.newz a z with z | ⟨k, z⟩ | z
              · exact s1.newz a z
              · exact .inr (cb k a z)
              · exact .inr (.inr (s1.there a z))
            · rcases b j a f with y | ⟨k, y⟩
              · exact s1.newf j a (b3 j a y)
              · rcases sc.newf k a y with ⟨l, y⟩ | y
                · exact cb l a y
                · exact .inr (s1.there a y)
            · refine sc.keep a u (s1.keep a u e n) fun k f => ?_
              rcases cb k a f with ⟨j, y⟩ | y
              · exact n j y
              · rw [y] at e; cases e
        cases h2 : C.call g os with
        | none => exact absurd h2 hnn
        | some r =>
          rw [h2] at e
          cases r with
          | ok o outs =>
            simp only at e
            cases h3 : Pv.backArgs (C.rf g) hs outs S1 with
            | none => rw [h3] at e; exact e.elim
            | some S2 =>
              rw [h3] at e
              intro v H' Z' fp' G sc fr O dv nv nw
              obtain ⟨fp2, R2, st, b⟩ := post h3 sc fr O
              have own : ∀ a, G a → ¬ Z' a ∧ ∀ i, ¬ fp2 i a := fun a g => ⟨(nv a g).1, fun i f => by
                rcases b i a f with y | ⟨k, y⟩
                · rcases nw a g with ⟨l, z⟩ | z
                  · exact b4 i l a y z
                  · obtain ⟨u, eu⟩ := R1.own_trk (b3 i a y)
                    rw [z] at eu; cases eu
                · exact (nv a g).2 k y⟩
              refine e v H' Z' fp2 G R2 st nofun (fun c z => ?_) ?_
              · rcases nw c z with ⟨l, y⟩ | y
                · exact cb l c y
                · exact .inr (s1.there c y)
              · cases o with
                | val d =>
                  obtain ⟨d1, d2⟩ := dv.valOf
                  subst d2
                  exact .d d1
                | ol _ => exact .fr dv own
                | od _ _ _ => exact .fr dv own
                | oi _ _ _ => exact .fr dv own
          | exc x outs =>
            simp only at e
            cases h3 : Pv.backArgs (C.rf g) hs outs S1 with
            | none => rw [h3] at e; exact e.elim
            | some S2 =>
              rw [h3] at e
              intro H' Z' fp' sc fr O
              obtain ⟨fp2, R2, st, b⟩ := post h3 sc fr O
              exact ⟨x, rfl, rfl, e H' Z' fp2 R2 st⟩
  · exact e.elim
end

/-- the calls of a program, k deep -/
structure Calls (X : Cx) (xc : Pv.Exc → Value) (C : Cxt) (k : Nat) (g n : Nat) (x : Str) : Prop where
  ok : ∃ f fd ps, FnOk X.prog X.w X.K X.mg X.base (L2.CX X.prog X.w) k f fd ps (spOf X.K xc n (C.rf g) (C.call g)) ∧ X.mg x = some (.ref f) ∧ PySem.W.keepIn X.K (.ref f) = true ∧ Binds X.K fd ps []
  len : ∀ vs, C.call g vs ≠ none → vs.length = n
section
variable {X : Cx} {W : WE} {xc : Pv.Exc → Value} {C : Cxt} {k g n : Nat} {x : Str} {p pos : Pos} {e : Expr} {es : List Expr} {fs : Pv.St → Res (List Hd)} {qa : Bool}
theorem call_read {σ : L2.St} {H : Hp} {Q : VK} (hn : ∀ vs, C.call g vs ≠ none → vs.length = n) (h : tOf X.K W (fun S => Pv.rb (fs S) (fun hs S1 => Pv.callH C g hs S1) ⟨⟩) false σ H Q) :
    tCallX (spOf X.K xc n (C.rf g) (C.call g)) [] (wx xc W) (tGen X.K W (ddL X.K) fs qa) σ H Q := by
  obtain ⟨Z, fp, S, R, e⟩ := h
  refine ⟨Z, fp, S, R, tEnd.bind0 .refl (fun _ => .refl) e nofun fun hs S1 e1 vs H1 Z1 fp1 F1 R1 d1 _ _ _ s1 _ nf1 e2 => ?_⟩
  rw [List.append_nil]
  exact call_promise hn R1 d1 s1 nf1 e2
theorem ve_call (c : Calls X xc C k g n x) (hr : Room k X.A) (hg : Gl X x) (tk : Takes X (wx xc W)) (ha : VA X W (e :: es) fs qa) (hdb : (x == ("__debug__" : Str)) = false) (he : starEach (e :: es) X.env = (false, eval e X.env) :: starEach es X.env) (hpl : (backTo pos (starEach es X.env)).any (·.1) = false) :
    VE X W (.Call (.Name x p) (e :: es) [] pos) (fun S => Pv.rb (fs S) (fun hs S1 => Pv.callH C g hs S1) ⟨⟩) false := by
  obtain ⟨f, fd, ps, F, hm, hk, hb⟩ := c.ok
  exact PE.imp (pe_callX F hr hg hm hk hb .nil tk ha hdb he hpl) fun σ H Q h => call_read c.len h
theorem ve_call0 (c : Calls X xc C k g n x) (hr : Room k X.A) (hg : Gl X x) (tk : Takes X (wx xc W)) (hdb : (x == ("__debug__" : Str)) = false) :
    VE X W (.Call (.Name x p) [] [] pos) (fun S => Pv.rb (some (.ok [] S) : Res (List Hd)) (fun hs S1 => Pv.callH C g hs S1) ⟨⟩) false := by
  obtain ⟨f, fd, ps, F, hm, hk, hb⟩ := c.ok
  refine PE.imp (pe_callX0 F hr hg hm hk hb .nil tk hdb) fun σ H Q h => ?_
  obtain ⟨Z, fp, S, R, e⟩ := h
  exact call_promise (hs := []) c.len R .nil .refl no_new e
end
end Ps
end

section
set_option Elab.async false
set_option linter.all false
set_option maxRecDepth 100000
set_option maxHeartbeats 4000000
/-! PvS: statements. -/
namespace Ps
open PySem PySem.Spec PyProof.Rows L2
open Pv (D SV Hd Stp Cxt Res Out)

/-- the slots of what was handed over are not assigned -/
def Kp (rf : List Bool) (σ σ' : L2.St) : Prop := ∀ i : Nat, rf[i]? = some true → σ'[i]? = σ[i]?
theorem Kp.refl {rf : List Bool} {σ : L2.St} : Kp rf σ σ := fun _ _ => rfl
theorem Kp.trans {rf : List Bool} {σ σ' σ'' : L2.St} (a : Kp rf σ σ') (b : Kp rf σ' σ'') : Kp rf σ σ'' := fun i h => (b i h).trans (a i h)
def nrf (rf : List Bool) (i : Nat) : Bool := rf[i]? != some true
theorem Kp.set {rf : List Bool} {σ : L2.St} {i : Nat} {v : Option V} (h : nrf rf i = true) : Kp rf σ (σ.set i v) := fun j hj => by
  by_cases e : i = j
  · subst e
    unfold nrf at h
    rw [hj] at h
    simp at h
  · exact List.getElem?_set_ne e

section
variable {K : PySem.W.Frag} {W : WE} {rf : List Bool} {Z Z' : AS} {fp fp' : Nat → AS} {S S' : Pv.St} {σ σ' : L2.St} {H H' : Hp} {D D' : Ends} {q qa : Bool}
def sEnd (K : PySem.W.Frag) (W : WE) (rf : List Bool) (r : Res Pv.Flow) (Z : AS) (fp : Nat → AS) (σ : L2.St) (H : Hp) (D : Ends) : Prop :=
  match r with
  | none => False
  | some (.ok .next S') => ∀ σ' H' Z' fp', Rel K Z' fp' S' σ' H' → Stq Z fp H Z' fp' H' → Kp rf σ σ' → D.nx σ' H'
  | some (.ok .brk S') => ∀ σ' H' Z' fp', Rel K Z' fp' S' σ' H' → Stq Z fp H Z' fp' H' → Kp rf σ σ' → D.bk σ' H'
  | some (.ok .cnt S') => ∀ σ' H' Z' fp', Rel K Z' fp' S' σ' H' → Stq Z fp H Z' fp' H' → Kp rf σ σ' → D.ct σ' H'
  | some (.ok (.ret o) S') => ∀ v σ' H' Z' fp' F, Rel K Z' fp' S' σ' H' → Stq Z fp H Z' fp' H' → Kp rf σ σ' → DenS K Z' H' v o F → (∀ a, F a → ¬ Z' a ∧ ∀ i, ¬ fp' i a) → (∀ c, F c → (∃ j, fp j c) ∨ H c = none) → D.rt v H'
  | some (.exc x S') => ∀ σ' H' Z' fp', Rel K Z' fp' S' σ' H' → Stq Z fp H Z' fp' H' → Kp rf σ σ' → W x σ' H'
def tS (K : PySem.W.Frag) (W : WE) (rf : List Bool) (f : Pv.St → Res Pv.Flow) : TS := fun D σ H => ∃ Z fp S, Rel K Z fp S σ H ∧ sEnd K W rf (f S) Z fp σ H D
abbrev VS (X : Cx) (W : WE) (rf : List Bool) (s : Stmt) (f : Pv.St → Res Pv.Flow) : Prop := PS X s (tS X.K W rf f)
abbrev VSs (X : Cx) (W : WE) (rf : List Bool) (s : List Stmt) (f : Pv.St → Res Pv.Flow) : Prop := PSs X s (tS X.K W rf f)

theorem sEnd.step {r : Res Pv.Flow} (e : sEnd K W rf r Z fp σ H D) (s : Stq Z fp H Z' fp' H') (kp : Kp rf σ σ') : sEnd K W rf r Z' fp' σ' H' D := by
  match r, e with
  | some (.ok .next S1), e => exact fun σ2 H2 Z2 fp2 R2 s2 k2 => e σ2 H2 Z2 fp2 R2 (s.trans s2) (kp.trans k2)
  | some (.ok .brk S1), e => exact fun σ2 H2 Z2 fp2 R2 s2 k2 => e σ2 H2 Z2 fp2 R2 (s.trans s2) (kp.trans k2)
  | some (.ok .cnt S1), e => exact fun σ2 H2 Z2 fp2 R2 s2 k2 => e σ2 H2 Z2 fp2 R2 (s.trans s2) (kp.trans k2)
  | some (.ok (.ret o) S1), e => exact fun v σ2 H2 Z2 fp2 F R2 s2 k2 d n nf => e v σ2 H2 Z2 fp2 F R2 (s.trans s2) (kp.trans k2) d n fun c f => (nf c f).elim (fun ⟨j, z⟩ => s.newf j c z) fun z => .inr (s.there c z)
  | some (.exc x S1), e => exact fun σ2 H2 Z2 fp2 R2 s2 k2 => e σ2 H2 Z2 fp2 R2 (s.trans s2) (kp.trans k2)
/-- an expression's end within a statement; Z0, fp0, H0: where the statement began -/
theorem sEnd.bind0 {α β : Type} {dd : DDk α β} {Z0 : AS} {fp0 : Nat → AS} {H0 : Hp} {r : Res α} {k : α → Pv.St → Res Pv.Flow} {w : Pv.Wit k} {P : β → Hp → Prop} (s0 : Stq Z0 fp0 H0 Z fp H) (e : sEnd K W rf (Pv.rb r k w) Z0 fp0 σ H0 D)
    (go : ∀ a S1, r = some (.ok a S1) → ∀ b H1 Z1 fp1 F, Rel K Z1 fp1 S1 σ H1 → dd Z1 fp1 σ H1 a b F → Stq Z fp H Z1 fp1 H1 → (qa = true → Ext H H1) → (∀ c, F c → (∃ j, fp j c) ∨ H c = none) →
      Stq Z0 fp0 H0 Z1 fp1 H1 → (∀ c, F c → (∃ j, fp0 j c) ∨ H0 c = none) → sEnd K W rf (k a S1) Z0 fp0 σ H0 D → P b H1) : tEnd K W dd r Z fp σ H qa P := by
  match r, e, go with
  | some (.ok a S1), e, go => exact fun b H1 Z1 fp1 F R1 s1 x1 nf d => go a S1 rfl b H1 Z1 fp1 F R1 d s1 x1 nf (s0.trans s1) (fun c f => (nf c f).elim (fun ⟨j, z⟩ => s0.newf j c z) fun z => .inr (s0.there c z)) e
  | some (.exc x S1), e, _ => exact fun H1 Z1 fp1 R1 s1 => e σ H1 Z1 fp1 R1 (s0.trans s1) .refl
theorem sEnd.bind {α β : Type} {dd : DDk α β} {r : Res α} {k : α → Pv.St → Res Pv.Flow} {w : Pv.Wit k} {P : β → Hp → Prop} (e : sEnd K W rf (Pv.rb r k w) Z fp σ H D)
    (go : ∀ a S1, r = some (.ok a S1) → ∀ b H1 Z1 fp1 F, Rel K Z1 fp1 S1 σ H1 → dd Z1 fp1 σ H1 a b F → Stq Z fp H Z1 fp1 H1 → (qa = true → Ext H H1) → (∀ c, F c → (∃ j, fp j c) ∨ H c = none) → sEnd K W rf (k a S1) Z fp σ H D → P b H1) : tEnd K W dd r Z fp σ H qa P :=
  sEnd.bind0 .refl e fun a S1 h b H1 Z1 fp1 F R1 d s1 x1 nf _ _ e2 => go a S1 h b H1 Z1 fp1 F R1 d s1 x1 nf e2

/-- slot i gets a new value -/
theorem Rel.put (R : Rel K Z fp S σ H) {i : Nat} {v : V} {o : SV} {F : AS} (d : DenS K Z H v o F) (n : ∀ a, F a → ¬ Z a ∧ ∀ j, j ≠ i → ¬ fp j a) : ∃ fp', Rel K Z fp' (S.set i (some o)) (σ.set i (some v)) H ∧ (∀ j a, fp' j a → fp j a ∨ F a) := by
  by_cases hi : i < S.length
  · have hs : i < σ.length := by rw [R.len]; exact hi
    refine ⟨fun j => if j = i then F else fp j, ⟨by rw [List.length_set, List.length_set]; exact R.len, fun j o1 e1 => ?_, fun j e1 a => ?_, fun j l a f g => ?_, fun j a f z => ?_, R.trk⟩, fun j a f => ?_⟩
    · rw [sGet_set] at e1
      by_cases h : j = i
      · subst h
        rw [if_pos ⟨rfl, hi⟩, Option.some.injEq] at e1
        subst e1
        exact ⟨v, by rw [List.getElem?_set_self hs], by rw [if_pos rfl]; exact d⟩
      · rw [if_neg (fun z => h z.1.symm)] at e1
        obtain ⟨v1, e2, d1⟩ := R.slot j o1 e1
        exact ⟨v1, by rw [List.getElem?_set_ne (fun z => h z.symm)]; exact e2, by rw [if_neg h]; exact d1⟩
    · rw [sGet_set] at e1
      by_cases h : j = i
      · subst h
        rw [if_pos ⟨rfl, hi⟩] at e1
        cases e1
      · rw [if_neg (fun z => h z.1.symm)] at e1
        rw [if_neg h]
        exact R.unset j e1 a
    · have key : ∀ j l, j ≠ i → (if j = i then F else fp j) a → (if l = i then F else fp l) a → l = i → False := fun j l hj f g hl => by
        rw [if_neg hj] at f
        rw [if_pos hl] at g
        exact (n a g).2 j hj f
      by_cases hj : j = i
      · by_cases hl : l = i
        · rw [hj, hl]
        · exact (key l j hl g f hj).elim
      · by_cases hl : l = i
        · exact (key j l hj f g hl).elim
        · have f : (if j = i then F else fp j) a := f
          have g : (if l = i then F else fp l) a := g
          rw [if_neg hj] at f
          rw [if_neg hl] at g
          exact R.apart j l a f g
    · have f : (if j = i then F else fp j) a := f
      by_cases hj : j = i
      · rw [if_pos hj] at f
        exact (n a f).1 z
      · rw [if_neg hj] at f
        exact R.dis j a f z
    · have f : (if j = i then F else fp j) a := f
      by_cases hj : j = i
      · rw [if_pos hj] at f; exact .inr f
      · rw [if_neg hj] at f; exact .inl f
  · have e1 : S.set i (some o) = S := List.set_eq_of_length_le (by omega)
    have e2 : σ.set i (some v) = σ := List.set_eq_of_length_le (by rw [R.len]; omega)
    rw [e1, e2]
    exact ⟨fp, R, fun _ _ f => .inl f⟩
/-- a slot is emptied -/
theorem Rel.drop (R : Rel K Z fp S σ H) {i : Nat} (σ' : L2.St) (hl : σ'.length = σ.length) (hσ : ∀ j, j ≠ i → σ'[j]? = σ[j]?) : Rel K Z (fun j => if j = i then AS.no else fp j) (S.set i none) σ' H := by
  have key : ∀ j a, (if j = i then AS.no else fp j) a → j ≠ i ∧ fp j a := fun j a f => by
    by_cases h : j = i
    · rw [if_pos h] at f; exact f.elim
    · rw [if_neg h] at f; exact ⟨h, f⟩
  refine ⟨by rw [List.length_set, hl]; exact R.len, fun j o1 e1 => ?_, fun j e1 a f => ?_, fun j l a f g => R.apart j l a (key j a f).2 (key l a g).2, fun j a f => R.dis j a (key j a f).2, R.trk⟩
  · rw [sGet_set] at e1
    by_cases h : j = i
    · subst h
      by_cases hlt : j < S.length
      · rw [if_pos ⟨rfl, hlt⟩] at e1; cases e1
      · rw [if_neg fun z => hlt z.2] at e1
        exact absurd (sGet_lt e1) hlt
    · rw [if_neg (fun z => h z.1.symm)] at e1
      obtain ⟨v, e2, d⟩ := R.slot j o1 e1
      exact ⟨v, by rw [hσ j h]; exact e2, by rw [if_neg h]; exact d⟩
  · rw [sGet_set] at e1
    obtain ⟨h, f⟩ := key j a f
    rw [if_neg (fun z => h z.1.symm)] at e1
    exact R.unset j e1 a f
theorem Stq.slots (nf : ∀ j a, fp' j a → (∃ i, fp i a) ∨ H a = none) : Stq Z fp H Z fp' H := ⟨fun _ z => z, fun _ z => .inl z, nf, fun _ _ e _ => e, fun _ e => e⟩
end

section
variable {X : Cx} {W : WE} {rf : List Bool} {a b c e : Expr} {f g k : Pv.St → Res Hd} {q qa qb qc : Bool} {pos : Pos} {st : Stmt} {rest : List Stmt} {fS gS : Pv.St → Res Pv.Flow}
theorem vss_nil : VSs X W rf [] (fun S => some (.ok .next S)) := by
  refine PSs.imp pss_nil fun D σ H h => ?_
  obtain ⟨Z, fp, S, R, e⟩ := h
  exact e σ H Z fp R .refl .refl
def seqK (g : Pv.St → Res Pv.Flow) : Pv.Flow → Pv.St → Res Pv.Flow := fun f S1 => (match f with | .next => g S1 | f => some (.ok f S1))
theorem seq_end {K : PySem.W.Frag} {Z : AS} {fp : Nat → AS} {σ : L2.St} {H : Hp} {D : Ends} {r : Res Pv.Flow} (e : sEnd K W rf (Pv.rb r (seqK gS) ⟨⟩) Z fp σ H D) : sEnd K W rf r Z fp σ H { D with nx := tS K W rf gS D } := by
  match r, e with
  | some (.exc x S1), e => exact e
  | some (.ok .next S1), e => exact fun σ' H' Z' fp' R' s' k' => ⟨Z', fp', S1, R', sEnd.step e s' k'⟩
  | some (.ok .brk S1), e => exact e
  | some (.ok .cnt S1), e => exact e
  | some (.ok (.ret o) S1), e => exact e
theorem vss_cons (h1 : VS X W rf st fS) (h2 : VSs X W rf rest gS) : VSs X W rf (st :: rest) (fun S => Pv.rb (fS S) (seqK gS) ⟨⟩) := by
  refine PSs.imp (pss_cons h1 h2) fun D σ H h => ?_
  obtain ⟨Z, fp, S, R, e⟩ := h
  exact ⟨Z, fp, S, R, seq_end e⟩
theorem vs_pass : VS X W rf (.Pass pos) (fun S => some (.ok .next S)) := by
  refine PS.imp ps_pass fun D σ H h => ?_
  obtain ⟨Z, fp, S, R, e⟩ := h
  exact e σ H Z fp R .refl .refl
theorem vs_break : VS X W rf (.Break pos) (fun S => some (.ok .brk S)) := by
  refine PS.imp ps_break fun D σ H h => ?_
  obtain ⟨Z, fp, S, R, e⟩ := h
  exact e σ H Z fp R .refl .refl
theorem vs_continue : VS X W rf (.Continue pos) (fun S => some (.ok .cnt S)) := by
  refine PS.imp ps_continue fun D σ H h => ?_
  obtain ⟨Z, fp, S, R, e⟩ := h
  exact e σ H Z fp R .refl .refl
theorem vs_stk : VS X W rf st (fun _ => none) := ⟨fun _ _ _ _ _ _ ⟨_, _, _, _, e⟩ => e.elim⟩
theorem ve_stk : VE X W e (fun _ => none) q := ⟨fun _ _ _ _ _ _ ⟨_, _, _, _, e⟩ => e.elim⟩
theorem vs_exp (he : VE X W e f qa) (hs : swapsWith e none pos.line X.env = pure false) : VS X W rf (.Expr e pos) (fun S => Pv.rb (f S) (fun _ S1 => some (.ok .next S1)) ⟨⟩) := by
  refine PS.imp (ps_expr he hs) fun D σ H h => ?_
  obtain ⟨Z, fp, S, R, e⟩ := h
  exact ⟨Z, fp, S, R, sEnd.bind e fun hx S1 e1 v H1 Z1 fp1 F1 R1 d1 s1 x1 nf1 e2 => e2 σ H1 Z1 fp1 R1 s1 .refl⟩
/-! ### return -/
theorem toSV_ok {K : PySem.W.Frag} {Z0 Z : AS} {fp0 fp : Nat → AS} {S S' : Pv.St} {σ : L2.St} {H0 H : Hp} (R : Rel K Z fp S σ H) {v : V} {h : Hd} {F : AS} {o : SV} (x : HdD K Z fp σ H v h F) (s0 : Stq Z0 fp0 H0 Z fp H) (nf : ∀ c, F c → (∃ j, fp0 j c) ∨ H0 c = none) (e : Pv.toSV h S = some (.ok o S')) :
    ∃ Z' fp' G, Rel K Z' fp' S' σ H ∧ Stq Z0 fp0 H0 Z' fp' H ∧ DenS K Z' H v o G ∧ (∀ a, G a → ¬ Z' a ∧ ∀ i, ¬ fp' i a) ∧ (∀ a, G a → F a) ∧ (∀ a, Z a → Z' a) ∧ (∀ a, Z' a → Z a ∨ ∃ i, fp i a) ∧ ∀ i a, fp' i a → fp i a := by
  cases h with
  | d d =>
    simp only [Pv.toSV, Option.some.injEq, Out.ok.injEq] at e
    obtain ⟨rfl, rfl⟩ := e
    exact ⟨Z, fp, AS.no, R, s0, .val x.dOf.1, fun _ z => z.elim, fun _ z => z.elim, fun _ z => z, fun _ z => .inl z, fun _ _ z => z⟩
  | fr o' =>
    simp only [Pv.toSV, Option.some.injEq, Out.ok.injEq] at e
    obtain ⟨rfl, rfl⟩ := e
    obtain ⟨d, n⟩ := x.frOf
    exact ⟨Z, fp, F, R, s0, d, n, fun _ z => z, fun _ z => z, fun _ z => .inl z, fun _ _ z => z⟩
  | at_ i p =>
    simp only [Pv.toSV] at e
    obtain ⟨d, S2, e1, e2⟩ := rb_some e
    simp only [Option.some.injEq, Out.ok.injEq] at e2
    obtain ⟨rfl, rfl⟩ := e2
    obtain ⟨_, eF⟩ := x.atOf
    obtain ⟨Z', fp', R', s', dd, mz, nz, nf'⟩ := esc_ok R x s0 nf e1
    refine ⟨Z', fp', AS.no, R', s', .val dd, fun _ z => z.elim, fun _ z => z.elim, mz, fun a z => ?_, nf'⟩
    rcases nz a z with z | z | z
    · exact .inl z
    · rw [eF] at z; exact z.elim
    · exact .inr z
theorem toSV_no_exc (h : Hd) (S : Pv.St) (x : Pv.Exc) (S' : Pv.St) : Pv.toSV h S ≠ some (.exc x S') := by
  cases h with
  | d d => simp [Pv.toSV]
  | fr o => simp [Pv.toSV]
  | at_ i p =>
    simp only [Pv.toSV]
    cases q : Pv.esc (.at_ i p) S with
    | none => simp [Pv.rb]
    | some r =>
      cases r with
      | exc y S2 => exact absurd q (esc_no_exc _ _ _ _)
      | ok d S2 => simp [Pv.rb_ok]
theorem vs_ret (he : VE X W e f qa) : VS X W rf (.Return (some e) pos) (fun S => Pv.rb (f S) (fun h S1 => Pv.rb (Pv.toSV h S1) (fun o S2 => some (.ok (.ret o) S2)) ⟨⟩) ⟨⟩) := by
  refine PS.imp (ps_ret he) fun D σ H h => ?_
  obtain ⟨Z, fp, S, R, e⟩ := h
  refine ⟨Z, fp, S, R, sEnd.bind e fun hx S1 e1 v H1 Z1 fp1 F1 R1 d1 s1 x1 nf1 e2 => ?_⟩
  have d1 : HdD X.K Z1 fp1 σ H1 v hx F1 := d1
  cases q1 : Pv.toSV hx S1 with
  | none => rw [q1] at e2; exact e2.elim
  | some r =>
    cases r with
    | exc x S2 => exact absurd q1 (toSV_no_exc _ _ _ _)
    | ok o S2 =>
      rw [q1, Pv.rb_ok] at e2
      obtain ⟨Z2, fp2, G, R2, s2, dS, n, g, _, _, _⟩ := toSV_ok R1 d1 s1 nf1 q1
      exact e2 v σ H1 Z2 fp2 G R2 s2 .refl dS n fun c z => nf1 c (g c z)
theorem vs_retN : VS X W rf (.Return none pos) (fun S => some (.ok (.ret (.val .non)) S)) := by
  refine PS.imp ps_retN fun D σ H h => ?_
  obtain ⟨Z, fp, S, R, e⟩ := h
  exact e _ σ H Z fp AS.no R .refl .refl (.val .non) (fun _ z => z.elim) no_new
/-- return x, x a local name that is not used behind it -/
theorem vs_retM {i : Nat} (he : PE X e (tVar i)) : VS X W rf (.Return (some e) pos) (fun S => (match Pv.sGet S i with | some o => some (.ok (.ret o) (S.set i none)) | none => none)) := by
  refine PS.imp (ps_ret he) fun D σ H h => ?_
  obtain ⟨Z, fp, S, R, e⟩ := h
  simp only at e
  cases q1 : Pv.sGet S i with
  | none => rw [q1] at e; exact e.elim
  | some o =>
    rw [q1] at e
    obtain ⟨v, e1, dS⟩ := R.slot i o q1
    refine ⟨v, e1, ?_⟩
    have R2 := R.drop (i := i) σ rfl fun _ _ => rfl
    refine e v σ H Z _ (fp i) R2 (Stq.slots fun j a f => ?_) .refl dS (fun a f => ⟨R.dis i a f, fun j g => ?_⟩) fun c f => .inl ⟨i, f⟩
    · by_cases h : j = i
      · rw [if_pos h] at f; exact f.elim
      · rw [if_neg h] at f; exact .inl ⟨j, f⟩
    · by_cases h : j = i
      · rw [if_pos h] at g; exact g.elim
      · rw [if_neg h] at g; exact h (R.apart j i a g f)
/-! ### if -/
theorem vs_if {ft : Pv.St → Res Bool} {sa sb : List Stmt} (hc : VT X W c ft qc) (ha : VSs X W rf sa fS) (hb : VSs X W rf sb gS) : VS X W rf (.If c sa sb pos) (fun S => Pv.rb (ft S) (fun r S1 => if r = true then fS S1 else gS S1) ⟨⟩) := by
  refine PS.imp (ps_if hc ha hb) fun D σ H h => ?_
  obtain ⟨Z, fp, S, R, e⟩ := h
  refine ⟨Z, fp, S, R, sEnd.bind e fun r S1 e1 r' H1 Z1 fp1 F1 R1 d1 s1 x1 nf1 e2 => ?_⟩
  obtain rfl : r' = r := d1
  cases r' with
  | true => rw [if_pos rfl] at e2 ⊢; exact ⟨Z1, fp1, S1, R1, sEnd.step e2 s1 .refl⟩
  | false => rw [if_neg Bool.false_ne_true] at e2 ⊢; exact ⟨Z1, fp1, S1, R1, sEnd.step e2 s1 .refl⟩
end
end Ps
end

section
set_option Elab.async false
set_option linter.all false
set_option maxRecDepth 100000
set_option maxHeartbeats 4000000
/-! PvS2: assignments. -/
namespace Ps
open PySem PySem.Spec PyProof.Rows L2
open Pv (D SV Hd Stp Cxt Res Out)

section
variable {K : PySem.W.Frag} {W : WE} {rf : List Bool} {Z Z' : AS} {fp fp' : Nat → AS} {S S' : Pv.St} {σ σ' : L2.St} {H H' : Hp}
theorem Rel.putD (R : Rel K Z fp S σ H) {i : Nat} {v : V} {d : D} (x : Den K Z H v d) : ∃ fp', Rel K Z fp' (S.set i (some (.val d))) (σ.set i (some v)) H ∧ ∀ j a, fp' j a → fp j a := by
  obtain ⟨fp', R', h⟩ := R.put (i := i) (.val x) (fun _ z => z.elim)
  exact ⟨fp', R', fun j a z => (h j a z).elim (fun z => z) fun z => z.elim⟩
/-- a target takes data -/
def gD (K : PySem.W.Frag) (rf : List Bool) (asg : D → Pv.St → Option Pv.St) : TG := fun v σ H Q => ∃ Z fp S d S', Rel K Z fp S σ H ∧ Den K Z H v d ∧ asg d S = some S' ∧ ∀ σ' fp', Rel K Z fp' S' σ' H → (∀ j a, fp' j a → fp j a) → Kp rf σ σ' → Q σ' H
def gDs (K : PySem.W.Frag) (rf : List Bool) (asg : List D → Pv.St → Option Pv.St) : TGs := fun vs σ H Q => ∃ Z fp S ds S', Rel K Z fp S σ H ∧ DenL K Z H vs ds ∧ asg ds S = some S' ∧ ∀ σ' fp', Rel K Z fp' S' σ' H → (∀ j a, fp' j a → fp j a) → Kp rf σ σ' → Q σ' H
end
theorem PG.imp {X : Cx} {e : Expr} {t t' : TG} (h : PG X e t) (i : ∀ v σ H Q, t' v σ H Q → t v σ H Q) : PG X e t' := ⟨fun pins s σ H v u Q I r x => h.run pins s σ H v u Q I r (i v σ H Q x)⟩
theorem PGs.imp {X : Cx} {e : List Expr} {t t' : TGs} (h : PGs X e t) (i : ∀ v σ H Q, t' v σ H Q → t v σ H Q) : PGs X e t' := ⟨fun pins s σ H v u Q I r x => h.run pins s σ H v u Q I r (i v σ H Q x)⟩

section
variable {X : Cx} {W : WE} {rf : List Bool} {a b c e : Expr} {f g k : Pv.St → Res Hd} {q qa qb qc : Bool} {pos : Pos} {st : Stmt} {rest : List Stmt} {fS gS : Pv.St → Res Pv.Flow}
/-- a local name of the body -/
structure Nm (X : Cx) (rf : List Bool) (i : Nat) (x : Str) : Prop where
  hN : X.N.Nodup
  hi : X.N[i]? = some x
  hx : Loc X.env.scope x
  hf : X.fn x = true ∨ X.env.scope.names.lookup x = some .local
  nr : nrf rf i = true
theorem vg_nm {i : Nat} {x : Str} (n : Nm X rf i x) : PG X (.Name x pos) (gD X.K rf (Pv.asgD (.nm i))) := by
  refine PG.imp (pg_name n.hN n.hi n.hx n.hf) fun v σ H Q h => ?_
  obtain ⟨Z, fp, S, d, S', R, x, e, q⟩ := h
  simp only [Pv.asgD, Option.some.injEq] at e
  subst e
  obtain ⟨fp', R', hf⟩ := R.putD (i := i) x
  exact q _ fp' R' hf (Kp.set n.nr)
theorem vgs_nil : PGs X [] (gDs X.K rf (Pv.asgNs [])) := by
  refine PGs.imp pgs_nil fun vs σ H Q h => ?_
  obtain ⟨Z, fp, S, ds, S', R, x, e, q⟩ := h
  cases x with
  | nil =>
    simp only [Pv.asgNs, Option.some.injEq] at e
    subst e
    exact ⟨rfl, q σ fp R (fun _ _ z => z) .refl⟩
  | cons _ _ => simp [Pv.asgNs] at e
theorem vgs_cons {i : Nat} {is : List Nat} {x : Str} {es : List Expr} (n : Nm X rf i x) (t : PGs X es (gDs X.K rf (Pv.asgNs is))) : PGs X (.Name x pos :: es) (gDs X.K rf (Pv.asgNs (i :: is))) := by
  refine PGs.imp (pgs_cons (pg_name n.hN n.hi n.hx n.hf) t rfl) fun vs σ H Q h => ?_
  obtain ⟨Z, fp, S, ds, S', R, x, e, q⟩ := h
  cases x with
  | nil => simp [Pv.asgNs] at e
  | cons x t =>
    simp only [Pv.asgNs] at e
    obtain ⟨fp', R', hf⟩ := R.putD (i := i) x
    exact ⟨_, _, rfl, Z, fp', _, _, S', R', t, e, fun σ' fp2 R2 h2 k2 => q σ' fp2 R2 (fun j a z => hf j a (h2 j a z)) ((Kp.set n.nr).trans k2)⟩
theorem vg_tp {is : List Nat} {es : List Expr} {k : Nat} (hc : X.calm = true) (h : PGs X es (gDs X.K rf (Pv.asgNs is))) (hl : es.length = is.length) (hn : (assignEach es X.env).length = es.length) (hst : (assignEach es X.env).findIdx? (·.1) = none) : PG X (.Tuple es k pos) (gD X.K rf (Pv.asgD (.tp is))) := by
  refine PG.imp (pg_tup hc h hn hst) fun v σ H Q h => ?_
  obtain ⟨Z, fp, S, d, S', R, x, e, q⟩ := h
  cases d with
  | tup ds =>
    simp only [Pv.asgD] at e
    obtain ⟨a, xs, rfl, ha, t⟩ := x.tupOf
    refine ⟨a, xs, rfl, ha, ?_, Z, fp, S, ds, S', R, t, e, q⟩
    have : ∀ (is : List Nat) (ds : List D) (S S' : Pv.St), Pv.asgNs is ds S = some S' → ds.length = is.length := by
      intro is
      induction is with
      | nil => intro ds S S' e; cases ds with
        | nil => rfl
        | cons _ _ => simp [Pv.asgNs] at e
      | cons i is ih => intro ds S S' e; cases ds with
        | nil => simp [Pv.asgNs] at e
        | cons d ds => simp only [Pv.asgNs] at e; simp [ih _ _ _ e]
    rw [t.length, this _ _ _ _ e, hl]
  | _ => simp [Pv.asgD] at e
theorem vgss_nil : PGs X [] (gDs X.K rf (Pv.asgNss [])) := by
  refine PGs.imp pgs_nil fun vs σ H Q h => ?_
  obtain ⟨Z, fp, S, ds, S', R, x, e, q⟩ := h
  cases x with
  | nil =>
    simp only [Pv.asgNss, Option.some.injEq] at e
    subst e
    exact ⟨rfl, q σ fp R (fun _ _ z => z) .refl⟩
  | cons _ _ => simp [Pv.asgNss] at e
theorem vgss_cons {is : List Nat} {iss : List (List Nat)} {es : List Expr} (n : PG X e (gD X.K rf (Pv.asgD (.tp is)))) (t : PGs X es (gDs X.K rf (Pv.asgNss iss))) (hs : (assignEach (e :: es) X.env).map (·.2) = assign e X.env :: (assignEach es X.env).map (·.2)) : PGs X (e :: es) (gDs X.K rf (Pv.asgNss (is :: iss))) := by
  refine PGs.imp (pgs_cons n t hs) fun vs σ H Q h => ?_
  obtain ⟨Z, fp, S, ds, S', R, x, e, q⟩ := h
  cases x with
  | nil => simp [Pv.asgNss] at e
  | @cons v d vs ds x t =>
    cases d with
    | tup xs =>
      simp only [Pv.asgNss] at e
      cases q1 : Pv.asgNs is xs S with
      | none => rw [q1] at e; cases e
      | some S1 =>
        rw [q1] at e
        refine ⟨_, _, rfl, Z, fp, S, .tup xs, S1, R, x, q1, fun σ1 fp1 R1 h1 k1 => ⟨Z, fp1, S1, ds, S', R1, t, e, fun σ2 fp2 R2 h2 k2 => q σ2 fp2 R2 (fun j a z => h1 j a (h2 j a z)) (k1.trans k2)⟩⟩
    | _ => simp [Pv.asgNss] at e
theorem vg_tp2 {iss : List (List Nat)} {es : List Expr} {k : Nat} (hc : X.calm = true) (h : PGs X es (gDs X.K rf (Pv.asgNss iss))) (hl : es.length = iss.length) (hn : (assignEach es X.env).length = es.length) (hst : (assignEach es X.env).findIdx? (·.1) = none) : PG X (.Tuple es k pos) (gD X.K rf (Pv.asgD (.tp2 iss))) := by
  refine PG.imp (pg_tup hc h hn hst) fun v σ H Q h => ?_
  obtain ⟨Z, fp, S, d, S', R, x, e, q⟩ := h
  cases d with
  | tup ds =>
    simp only [Pv.asgD] at e
    obtain ⟨a, xs, rfl, ha, t⟩ := x.tupOf
    refine ⟨a, xs, rfl, ha, ?_, Z, fp, S, ds, S', R, t, e, q⟩
    have : ∀ (is : List (List Nat)) (ds : List D) (S S' : Pv.St), Pv.asgNss is ds S = some S' → ds.length = is.length := by
      intro is
      induction is with
      | nil => intro ds S S' e; cases ds with
        | nil => rfl
        | cons _ _ => simp [Pv.asgNss] at e
      | cons i is ih => intro ds S S' e; cases ds with
        | nil => simp [Pv.asgNss] at e
        | cons d ds =>
          cases d with
          | tup xs =>
            simp only [Pv.asgNss] at e
            cases q : Pv.asgNs i xs S with
            | none => rw [q] at e; cases e
            | some S1 => rw [q] at e; simp [ih _ _ _ e]
          | _ => simp [Pv.asgNss] at e
    rw [t.length, this _ _ _ _ e, hl]
  | _ => simp [Pv.asgD] at e

/-! ### a target = an expression -/
abbrev fAsg (t : Pv.Tg) (f : Pv.St → Res Hd) : Pv.St → Res Pv.Flow := fun S => Pv.rb (f S) (fun h S1 => Pv.rb (Pv.asgH t h S1) (fun _ S2 => some (.ok .next S2)) ⟨⟩) ⟨⟩
theorem asgH_data {t : Pv.Tg} {h : Hd} (hn : (∃ i o, t = .nm i ∧ h = .fr o) → False) (S : Pv.St) : Pv.asgH t h S = Pv.rb (Pv.esc h S) (fun d S1 => Pv.asgH.lf' (Pv.asgD t d S1)) ⟨⟩ := by
  cases t with
  | nm i =>
    cases h with
    | fr o => exact (hn ⟨i, o, rfl, rfl⟩).elim
    | _ => rfl
  | _ => rfl
theorem asg_data {K : PySem.W.Frag} {Z : AS} {fp : Nat → AS} {S : Pv.St} {σ : L2.St} {H : Hp} {Z0 : AS} {fp0 : Nat → AS} {H0 : Hp} {D : Ends} {t : Pv.Tg} {h : Hd} {v : V} {F : AS} (R : Rel K Z fp S σ H) (x : HdD K Z fp σ H v h F) (s0 : Stq Z0 fp0 H0 Z fp H) (nf : ∀ c, F c → (∃ j, fp0 j c) ∨ H0 c = none)
    (hn : (∃ i o, t = .nm i ∧ h = .fr o) → False) (e : sEnd K W rf (Pv.rb (Pv.asgH t h S) (fun _ S2 => some (.ok .next S2)) ⟨⟩) Z0 fp0 σ H0 D) : gD K rf (Pv.asgD t) v σ H D.nx := by
  rw [asgH_data hn] at e
  cases q1 : Pv.esc h S with
  | none => rw [q1] at e; exact e.elim
  | some r =>
    cases r with
    | exc x S2 => exact absurd q1 (esc_no_exc _ _ _ _)
    | ok d S2 =>
      rw [q1, Pv.rb_ok] at e
      obtain ⟨Z2, fp2, R2, s2, dd, _, _, _⟩ := esc_ok R x s0 nf q1
      cases q2 : Pv.asgD t d S2 with
      | none => rw [q2] at e; exact e.elim
      | some S3 =>
        rw [q2] at e
        exact ⟨Z2, fp2, S2, d, S3, R2, dd, q2, fun σ' fp' R' hf kp => e σ' H Z2 fp' R' (s2.trans (Stq.slots fun j a z => .inl ⟨j, hf j a z⟩)) kp⟩
/-- x = e -/
theorem vs_set {i : Nat} {x : Str} {pos' : Pos} (n : Nm X rf i x) (he : VE X W e f qa) (hs : swapsWith e (some (.Name x pos')) pos.line X.env = pure false) : VS X W rf (.Assign [.Name x pos'] e pos) (fAsg (.nm i) f) := by
  refine PS.imp (ps_set n.hN n.hi n.hx he hs n.hf) fun D σ H h => ?_
  obtain ⟨Z, fp, S, R, e⟩ := h
  refine ⟨Z, fp, S, R, sEnd.bind e fun hx S1 e1 v H1 Z1 fp1 F1 R1 d1 s1 x1 nf1 e2 => ?_⟩
  have d1 : HdD X.K Z1 fp1 σ H1 v hx F1 := d1
  by_cases hf : ∃ o, hx = .fr o
  · obtain ⟨o, rfl⟩ := hf
    obtain ⟨dS, own⟩ := d1.frOf
    obtain ⟨fp2, R2, h2⟩ := R1.put (i := i) dS fun a g => ⟨(own a g).1, fun j _ => (own a g).2 j⟩
    refine e2 _ H1 Z1 fp2 R2 ⟨s1.mono, s1.newz, fun j a g => ?_, s1.keep, s1.there⟩ (Kp.set n.nr)
    exact (h2 j a g).elim (s1.newf j a) (nf1 a)
  · obtain ⟨Z2, fp2, S2, d, S3, R2, dd, ea, go⟩ := asg_data R1 d1 s1 nf1 (fun ⟨_, o, _, z⟩ => hf ⟨o, z⟩) e2
    simp only [Pv.asgD, Option.some.injEq] at ea
    subst ea
    obtain ⟨fp3, R3, h3⟩ := R2.putD (i := i) dd
    exact go _ fp3 R3 h3 (Kp.set n.nr)
/-- a, b = e -/
theorem vs_asg {t : Pv.Tg} {tg : Expr} (ht : ∀ i, t ≠ .nm i) (he : VE X W e f qa) (hg : PG X tg (gD X.K rf (Pv.asgD t))) (hs : swapsWithSole [tg] e pos.line X.env = pure false) (hw : swappedStores [tg] e X.env = pure none) (h1 : (assignEach [tg] X.env).map (·.2) = [assign tg X.env]) :
    VS X W rf (.Assign [tg] e pos) (fAsg t f) := by
  refine PS.imp (ps_asg he hg hs hw h1) fun D σ H h => ?_
  obtain ⟨Z, fp, S, R, e⟩ := h
  refine ⟨Z, fp, S, R, sEnd.bind e fun hx S1 e1 v H1 Z1 fp1 F1 R1 d1 s1 x1 nf1 e2 => ?_⟩
  have d1 : HdD X.K Z1 fp1 σ H1 v hx F1 := d1
  exact asg_data R1 d1 s1 nf1 (fun ⟨i, _, z, _⟩ => ht i z) e2
/-- x = y, y is not used behind it -/
theorem vs_mov {i j : Nat} {x : Str} {pos' : Pos} (n : Nm X rf i x) (he : PE X e (tVar j)) (hs : swapsWith e (some (.Name x pos')) pos.line X.env = pure false) : VS X W rf (.Assign [.Name x pos'] e pos) (fun S => (match Pv.sGet S j with
    | some (.val d) => some (.ok .next (S.set i (some (.val d))))
    | some o => some (.ok .next ((S.set j none).set i (some o)))
    | none => none)) := by
  refine PS.imp (ps_set n.hN n.hi n.hx he hs n.hf) fun D σ H h => ?_
  obtain ⟨Z, fp, S, R, e⟩ := h
  simp only at e
  cases q1 : Pv.sGet S j with
  | none => rw [q1] at e; exact e.elim
  | some o =>
    obtain ⟨v, e1, dS⟩ := R.slot j o q1
    refine ⟨v, e1, ?_⟩
    show D.nx (σ.set i (some v)) H
    by_cases hv : ∃ d, o = .val d
    · obtain ⟨d, rfl⟩ := hv
      rw [q1] at e
      obtain ⟨fp2, R2, h2⟩ := R.putD (i := i) dS.valOf.1
      exact e _ H Z fp2 R2 (Stq.slots fun k a z => .inl ⟨k, h2 k a z⟩) (Kp.set n.nr)
    · have R2 := R.drop (i := j) σ rfl fun _ _ => rfl
      obtain ⟨fp2, R3, h2⟩ := R2.put (i := i) dS fun a f => ⟨R.dis j a f, fun l _ g => by
        by_cases h : l = j
        · rw [if_pos h] at g; exact g.elim
        · rw [if_neg h] at g; exact h (R.apart l j a g f)⟩
      have e' : sEnd X.K W rf (some (.ok .next ((S.set j none).set i (some o)))) Z fp σ H D := by
        rw [q1] at e
        cases o with
        | val d => exact absurd ⟨d, rfl⟩ hv
        | ol _ => exact e
        | od _ _ _ => exact e
        | oi _ _ _ => exact e
      refine e' _ H Z fp2 R3 (Stq.slots fun k a z => ?_) (Kp.set n.nr)
      rcases h2 k a z with z | z
      · by_cases h : k = j
        · rw [if_pos h] at z; exact z.elim
        · rw [if_neg h] at z; exact .inl ⟨k, z⟩
      · exact .inl ⟨j, z⟩
/-! ### x op= e -/
theorem augD_ints {o : Pv.BOp} {u y z : D} (h : Pv.augD o u y = some z) : ∃ m l, u = .int m ∧ y = .int l ∧ Pv.binD o (.int m) (.int l) = some z := by
  unfold Pv.augD at h
  split at h
  · exact ⟨_, _, rfl, rfl, h⟩
  · cases h
theorem vs_aug {i : Nat} {x : Str} {o : Pv.BOp} {pos' : Pos} (n : Nm X rf i x) (ho : o = .add ∨ o = .sub) (he : VE X W e f qa) : VS X W rf (.AugAssign (.Name x pos') (bop o) e pos) (fun S => (match Pv.sGet S i with
    | some (.val x) => Pv.rb (f S) (fun h S1 => (match h with
      | .d y => (match Pv.augD o x y with | some z => some (.ok .next (S1.set i (some (.val z)))) | none => none)
      | _ => none)) ⟨⟩
    | _ => none)) := by
  have hp : PIp X (bop o) (ipI fun i j => match o with | .add => i + j | _ => i - j) := by
    rcases ho with rfl | rfl
    · exact ip_add
    · exact ip_sub
  refine PS.imp (ps_aug n.hN n.hi n.hx he hp n.hf) fun D σ H h => ?_
  obtain ⟨Z, fp, S, R, e⟩ := h
  simp only at e
  split at e
  · rename_i u q1
    obtain ⟨v, e1, dS⟩ := R.slot i _ q1
    refine ⟨v, e1, Z, fp, S, R, sEnd.bind e fun hx S1 e1 w H1 Z1 fp1 F1 R1 d1 s1 x1 nf1 e2 => ?_⟩
    replace d1 : HdD X.K Z1 fp1 σ H1 w hx F1 := d1
    cases hx with
    | d y =>
      simp only at e2
      have dv := dS.valOf.1
      have dw := d1.dOf.1
      cases q2 : Pv.augD o u y with
      | none => rw [q2] at e2; exact e2.elim
      | some z =>
      rw [q2] at e2
      obtain ⟨m, l, rfl, rfl, q3⟩ := augD_ints q2
      obtain rfl := dv.intOf
      obtain rfl := dw.intOf
      refine ⟨m, l, rfl, rfl, ?_⟩
      rcases ho with rfl | rfl
      · obtain rfl := Option.some.inj q3
        obtain ⟨fp2, R2, h2⟩ := R1.putD (i := i) (Den.int (K := X.K) (Z := Z1) (H := H1) (m + l))
        exact e2 _ H1 Z1 fp2 R2 (s1.trans (Stq.slots fun j a z => .inl ⟨j, h2 j a z⟩)) (Kp.set n.nr)
      · obtain rfl := Option.some.inj q3
        obtain ⟨fp2, R2, h2⟩ := R1.putD (i := i) (Den.int (K := X.K) (Z := Z1) (H := H1) (m - l))
        exact e2 _ H1 Z1 fp2 R2 (s1.trans (Stq.slots fun j a z => .inl ⟨j, h2 j a z⟩)) (Kp.set n.nr)
    | at_ _ _ => exact e2.elim
    | fr _ => exact e2.elim
  · exact e.elim
end
end Ps
end

section
set_option Elab.async false
set_option linter.all false
set_option maxRecDepth 100000
set_option maxHeartbeats 4000000
/-! PvS3: a, b = x, y; xs[i] = e; xs.append(e); while; for. -/
namespace Ps
open PySem PySem.Spec PyProof.Rows L2
open Pv (D SV Hd Stp Cxt Res Out)

section
variable {K : PySem.W.Frag} {W : WE} {rf : List Bool} {Z Z' : AS} {fp fp' : Nat → AS} {S S' : Pv.St} {σ σ' : L2.St} {H H' : Hp}
/-- an owned list at a place; it may be written -/
theorem HdD.olAt (R : Rel K Z fp S σ H) {v : V} {i : Nat} {p : List Stp} {F : AS} {os : List SV} (x : HdD K Z fp σ H v (.at_ i p) F) (lk : Pv.look (.at_ i p) S = some (.ol os)) :
    ∃ a vs G, v = .ref a ∧ H a = some (.lst vs) ∧ DenSL K Z H vs os G ∧ fp i a ∧ ¬ G a ∧
      ∀ (vs' : List V) (os' : List SV) (G' : AS) (S' : Pv.St), DenSL K Z H vs' os' G' → (∀ c, G' c → G c) → Pv.put i p (.ol os') S = some S' → ∃ fp', Rel K Z fp' S' σ (upd H a (.lst vs')) ∧ Stq Z fp H Z fp' (upd H a (.lst vs')) ∧ ∀ j c, fp' j c → fp j c := by
  obtain ⟨⟨r, e1, pv⟩, _⟩ := x.atOf
  obtain ⟨s, hs, hq⟩ := look_at lk
  obtain ⟨v', e2, dS⟩ := R.slot i s hs
  rw [e1] at e2
  cases e2
  obtain ⟨G0, Rr, dG, eF, dj, go⟩ := dS.focus hq pv
  obtain ⟨a, vs, G, rfl, ha, dl, hn, eG⟩ := dG.olOf
  have gf : ∀ c, G0 c → fp i c := fun c z => (eF c).mpr (.inl z)
  have fa : fp i a := gf a (by rw [eG]; exact .inl rfl)
  refine ⟨a, vs, G, rfl, ha, dl, fa, hn, fun vs' os' G' S' dl' hG hp => ?_⟩
  obtain ⟨o', ho', rfl⟩ := put_at hs hp
  have ne : ∀ {c : Addr} {u : HO}, c ≠ a → H c = some u → upd H a (.lst vs') c = some u := fun h e => by rw [upd_ne h]; exact e
  have kz : ∀ c u, Z c → H c = some u → upd H a (.lst vs') c = some u := fun c u z e => ne (fun h => R.dis i a fa (h ▸ z)) e
  have kr : ∀ c u, Rr c → H c = some u → upd H a (.lst vs') c = some u := fun c u z e => ne (fun h => dj a (by rw [eG]; exact .inl rfl) (h ▸ z)) e
  have hGa : ∀ c, G' c → c ≠ a := fun c g h => hn (h ▸ hG c g)
  have dN : DenS K Z (upd H a (.lst vs')) (.ref a) (.ol os') (fun b => b = a ∨ G' b) := .ol upd_same (dl'.mono kz (fun _ z => z) fun c u g e => ne (hGa c g) e) fun g => hGa a g rfl
  have djN : ∀ c, (c = a ∨ G' c) → ¬ Rr c := fun c g z => dj c (by rw [eG]; exact g.elim (fun h => .inl h) fun h => .inr (hG c h)) z
  obtain ⟨F', dF, eF'⟩ := go Z _ (.ol os') o' _ kz (fun _ z => z) kr dN djN ho'
  have fF : ∀ c, F' c → fp i c := fun c z => ((eF' c).mp z).elim (fun z => gf c (by rw [eG]; exact z.elim (fun h => .inl h) fun h => .inr (hG c h))) fun z => (eF c).mpr (.inr z)
  have ko : ∀ j c u, j ≠ i → fp j c → H c = some u → upd H a (.lst vs') c = some u := fun j c u hj f e => ne (fun h => hj (R.apart j i c f (h ▸ fa))) e
  refine ⟨fun j => if j = i then F' else fp j, R.setAt (sGet_lt hs) e1 kz (fun _ z => z) dF ko (fun c z => .inl (fF c z)) (fun c f z => R.dis i c (fF c f) z) (fun c z => .inl z) fun c z => ?_, Stq.setAt (fun _ z => z) (fun c z => .inl z) (fun c z => .inl (fF c z)) (fun c u e n => ne (fun h => n i (h ▸ fa)) e) fun c e => ?_, fun j c f => ?_⟩
  · obtain ⟨u, e⟩ := R.trk c z
    exact ⟨u, kz c u z e⟩
  · by_cases h : c = a
    · subst h; rw [upd_same] at e; cases e
    · rw [upd_ne h] at e; exact e
  · have f : (if j = i then F' else fp j) c := f
    by_cases hj : j = i
    · rw [if_pos hj] at f; rw [hj]; exact fF c f
    · rw [if_neg hj] at f; exact f
theorem DenSL.setD : ∀ {vs : List V} {os : List SV} {F : AS} {v : V} {d : D} (j : Nat), DenSL K Z H vs os F → Den K Z H v d → ∃ F', DenSL K Z H (vs.set j v) (os.set j (.val d)) F' ∧ ∀ a, F' a → F a
  | _, _, _, _, _, _, .nil, _ => ⟨_, .nil, fun _ z => z⟩
  | _, _, _, _, _, 0, .cons x t n, y => ⟨_, .cons (.val y) t (fun _ z => z.elim), fun a z => z.elim (fun z => z.elim) fun z => .inr z⟩
  | _, _, _, _, _, j + 1, .cons x t n, y => by
    obtain ⟨F', t', h⟩ := DenSL.setD j t y
    exact ⟨_, .cons x t' (fun a f g => n a f (h a g)), fun a z => z.imp (fun z => z) (h a)⟩
theorem DenSL.append : ∀ {vs ws : List V} {os : List SV} {ds : List D} {F : AS}, DenSL K Z H vs os F → DenL K Z H ws ds → ∃ F', DenSL K Z H (vs ++ ws) (os ++ ds.map SV.val) F' ∧ ∀ a, F' a → F a
  | _, _, _, _, _, .nil, t => ⟨_, DenSL.ofVals t, fun _ z => z⟩
  | _, _, _, _, _, .cons x t n, y => by
    obtain ⟨F', t', h⟩ := DenSL.append t y
    exact ⟨_, .cons x t' (fun a f g => n a f (h a g)), fun a z => z.imp (fun z => z) (h a)⟩
end

section
variable {X : Cx} {W : WE} {rf : List Bool} {a b c e : Expr} {f g k : Pv.St → Res Hd} {q qa qb qc : Bool} {pos : Pos} {st : Stmt} {rest : List Stmt} {fS gS : Pv.St → Res Pv.Flow}
/-! ### a, b = x, y -/
theorem vs_par {i j : Nat} {x y : Str} {px py pt pt2 : Pos} {kt k2 : Nat} {fs : Pv.St → Res (List Hd)} (hc : X.calm = true) (n : Nm X rf i x) (m : Nm X rf j y) (hij : i ≠ j) (hx : X.env.scope.names.lookup x = some .local) (hy : X.env.scope.names.lookup y = some .local) (ha : VA X W [a, b] fs qa)
    (hw : swappedStores [.Tuple [.Name x px, .Name y py] kt pt] (.Tuple [a, b] k2 pt2) X.env = pure (some [x, y])) (hs : swapsWithSole [.Tuple [.Name x px, .Name y py] kt pt] (.Tuple [a, b] k2 pt2) pos.line X.env = pure false) :
    VS X W rf (.Assign [.Tuple [.Name x px, .Name y py] kt pt] (.Tuple [a, b] k2 pt2) pos) (fun S => Pv.rb (fs S) (fun hs S1 => Pv.rb (Pv.toSVs hs S1) (fun os S2 => Pv.okS (Pv.setSVs [i, j] os S2)) ⟨⟩) ⟨⟩) := by
  refine PS.imp (ps_par hc n.hN n.hi m.hi hij hx hy ha hw hs) fun D σ H h => ?_
  obtain ⟨Z, fp, S, R, e⟩ := h
  refine ⟨Z, fp, S, R, sEnd.bind e fun hs S1 e1 vs H1 Z1 fp1 F1 R1 d1 s1 x1 nf1 e2 => ?_⟩
  have d1 : HdL X.K Z1 fp1 σ H1 vs hs F1 := d1
  cases d1 with
  | nil => simp [Pv.toSVs, Pv.rb_ok, Pv.setSVs, Pv.okS] at e2; exact e2.elim
  | @cons v1 h1 vs hs F G x1 t1 n1 =>
    simp only [Pv.toSVs] at e2
    cases q1 : Pv.toSV h1 S1 with
    | none => rw [q1] at e2; exact e2.elim
    | some r =>
      cases r with
      | exc x S2 => exact absurd q1 (toSV_no_exc _ _ _ _)
      | ok o1 S2 =>
        rw [q1, Pv.rb_ok] at e2
        obtain ⟨Z2, fp2, G1, R2, s2, dS1, own1, g1, mz2, nz2, nf2⟩ := toSV_ok R1 x1 s1 (fun c z => nf1 c (.inl z)) q1
        have t2 := t1.move (G := AS.no) mz2 (fun a z => (nz2 a z).imp_right .inr) nf2 (fun _ _ z => z)
        cases t2 with
        | nil => simp [Pv.toSVs, Pv.rb_ok, Pv.setSVs, Pv.okS] at e2; exact e2.elim
        | @cons v2 h2 vs hs F' G' x2 t2 n2 =>
          simp only [Pv.toSVs] at e2
          cases q2 : Pv.toSV h2 S2 with
          | none => rw [q2] at e2; exact e2.elim
          | some r =>
            cases r with
            | exc x S3 => exact absurd q2 (toSV_no_exc _ _ _ _)
            | ok o2 S3 =>
              rw [q2, Pv.rb_ok] at e2
              obtain ⟨Z3, fp3, G2, R3, s3, dS2, own2, g2, mz3, nz3, nf3⟩ := toSV_ok R2 x2 s2 (fun c z => nf1 c (.inr (.inl z))) q2
              cases t2 with
              | cons x3 t3 n3 =>
                -- three values: the meaning is stuck
                simp only [Pv.toSVs] at e2
                rename_i v3 h3 vs3 hs3 F3 G3
                cases q3 : Pv.toSV h3 S3 with
                | none => rw [q3] at e2; exact e2.elim
                | some r =>
                  cases r with
                  | exc x S4 => exact absurd q3 (toSV_no_exc _ _ _ _)
                  | ok o3 S4 =>
                    rw [q3, Pv.rb_ok] at e2
                    have stuck : ∀ (hs : List Hd) (S : Pv.St), sEnd X.K W rf (Pv.rb (Pv.rb (Pv.rb (Pv.rb (Pv.toSVs hs S) (fun os S2 => some (.ok (o3 :: os) S2)) ⟨⟩) (fun os S2 => some (.ok (o2 :: os) S2)) ⟨⟩) (fun os S2 => some (.ok (o1 :: os) S2)) ⟨⟩) (fun os S2 => Pv.okS (Pv.setSVs [i, j] os S2)) ⟨⟩) Z fp σ H D → False := by
                      intro hs S e
                      have noex : ∀ (hs : List Hd) (S : Pv.St) (y : Pv.Exc) (S' : Pv.St), Pv.toSVs hs S ≠ some (.exc y S') := by
                        intro hs
                        induction hs with
                        | nil => intro S y S' z; simp [Pv.toSVs] at z
                        | cons h hs ih =>
                          intro S y S' z
                          simp only [Pv.toSVs] at z
                          cases w : Pv.toSV h S with
                          | none => rw [w] at z; cases z
                          | some r =>
                            cases r with
                            | exc u S5 => exact toSV_no_exc _ _ _ _ w
                            | ok o S5 =>
                              rw [w, Pv.rb_ok] at z
                              cases w2 : Pv.toSVs hs S5 with
                              | none => rw [w2] at z; cases z
                              | some r =>
                                cases r with
                                | exc u S6 => exact ih _ _ _ w2
                                | ok os S6 => rw [w2] at z; simp [Pv.rb_ok] at z
                      cases w : Pv.toSVs hs S with
                      | none => rw [w] at e; exact e
                      | some r =>
                        cases r with
                        | exc y S5 => exact noex _ _ _ _ w
                        | ok os S5 => rw [w] at e; exact e
                    exact (stuck hs3 S4 e2).elim
              | nil =>
                have e2 : sEnd X.K W rf (some (.ok .next ((S3.set i (some o1)).set j (some o2)))) Z fp σ H D := e2
                refine ⟨v1, v2, rfl, ?_⟩
                have own1' : ∀ a, G1 a → ¬ Z3 a ∧ ∀ k, ¬ fp3 k a := fun a g => ⟨fun z => (nz3 a z).elim (own1 a g).1 fun ⟨k, z⟩ => (own1 a g).2 k z, fun k z => (own1 a g).2 k (nf3 k a z)⟩
                have dS1' : DenS X.K Z3 H1 v1 o1 G1 := dS1.mono (fun _ _ _ e => e) mz3 fun _ _ _ e => e
                obtain ⟨fp4, R4, h4⟩ := R3.put (i := i) dS1' fun a g => ⟨(own1' a g).1, fun k _ => (own1' a g).2 k⟩
                obtain ⟨fp5, R5, h5⟩ := R4.put (i := j) dS2 fun a g => ⟨(own2 a g).1, fun k _ z => (h4 k a z).elim ((own2 a g).2 k) fun z => n1 a (g1 a z) (.inl (g2 a g))⟩
                refine e2 _ H1 Z3 fp5 R5 ⟨s3.mono, s3.newz, fun k a z => ?_, s3.keep, s3.there⟩ ((Kp.set n.nr).trans (Kp.set m.nr))
                rcases h5 k a z with z | z
                · rcases h4 k a z with z | z
                  · exact s3.newf k a z
                  · exact nf1 a (.inl (g1 a z))
                · exact nf1 a (.inr (.inl (g2 a z)))
/-! ### xs[i] = e -/
def rSetH (K : PySem.W.Frag) : TSet := fun o i v H Q => ∃ (p : Addr) (vs : List V) (k : Int) (j : Nat), o = .ref p ∧ i = .int k ∧ H p = some (.lst vs) ∧ L2.ixN vs.length k = some j ∧ Q (upd H p (.lst (vs.set j v)))
theorem vs_sIx {p2 : Pos} (he : VE X W e f qa) (ha : VE X W a g qb) (hb : VE X W b k qc) (st : ∀ S x S1, g S = some (.ok x S1) → stale x = true → qc = true)
    (hs : swapsWithSole [.Subscript a b p2] e pos.line X.env = pure false) (hw : swappedStores [.Subscript a b p2] e X.env = pure none) (h1 : (assignEach [.Subscript a b p2] X.env).map (·.2) = [assign (.Subscript a b p2) X.env])
    (hp : ∀ v, assign (.Subscript a b p2) X.env v = (do
      let ov ← holding [v] (eval a X.env)
      let iv ← holding [v, ov] (eval b X.env)
      standAt p2
      holding [v, ov, iv] (setItem ov iv v)
      release [v, ov, iv] [])) :
    VS X W rf (.Assign [.Subscript a b p2] e pos) (fun S => Pv.rb (f S) (fun h S1 => Pv.rb (Pv.esc h S1) (fun d S2 => Pv.rb (g S2) (fun x S3 => Pv.rb (k S3) (fun y S4 => Pv.rb (Pv.esc y S4) (fun kd S5 => Pv.okS (Pv.setH x kd d S5)) ⟨⟩) ⟨⟩) ⟨⟩) ⟨⟩) ⟨⟩) := by
  refine PS.imp (ps_asg he (pg_sub ha hb set_list hp) hs hw h1) fun D σ H h => ?_
  obtain ⟨Z, fp, S, R, e⟩ := h
  refine ⟨Z, fp, S, R, sEnd.bind e fun hx S1 e1 v H1 Z1 fp1 F1 R1 d1 s1 x1 nf1 e2 => ?_⟩
  have d1 : HdD X.K Z1 fp1 σ H1 v hx F1 := d1
  cases q1 : Pv.esc hx S1 with
  | none => rw [q1] at e2; exact e2.elim
  | some r =>
    cases r with
    | exc x S2 => exact absurd q1 (esc_no_exc _ _ _ _)
    | ok d S2 =>
      rw [q1, Pv.rb_ok] at e2
      obtain ⟨Z2, fp2, R2, s2, dd, _, _, _⟩ := esc_ok R1 d1 s1 nf1 q1
      refine ⟨Z2, fp2, S2, R2, sEnd.bind0 s2 e2 fun hx2 S3 e3 o H3 Z3 fp3 F3 R3 d3 s3 x3 nf3 s03 nf03 e4 => ?_⟩
      have d3 : HdD X.K Z3 fp3 σ H3 o hx2 F3 := d3
      refine ⟨Z3, fp3, S3, R3, sEnd.bind0 s03 e4 fun hy S4 e5 i H4 Z4 fp4 F4 R4 d4 s4 x4 nf4 s04 nf04 e6 => ?_⟩
      have d4 : HdD X.K Z4 fp4 σ H4 i hy F4 := d4
      have d3' := d3.step R3 s4 fun z => x4 (st _ _ _ e3 z)
      have dd4 := R3.den s4 (R2.den s3 dd)
      cases q2 : Pv.esc hy S4 with
      | none => rw [q2] at e6; exact e6.elim
      | some r =>
        cases r with
        | exc x S5 => exact absurd q2 (esc_no_exc _ _ _ _)
        | ok kd S5 =>
          rw [q2, Pv.rb_ok] at e6
          obtain ⟨Z5, fp5, R5, s5, dk, mz5, nz5, nf5⟩ := esc_ok R4 d4 s04 nf04 q2
          have dd5 : Den X.K Z5 H4 v d := dd4.mono (fun _ _ _ e => e) mz5
          cases q3 : Pv.setH hx2 kd d S5 with
          | none => rw [q3] at e6; exact e6.elim
          | some S6 =>
            rw [q3, Pv.okS_some] at e6
            unfold Pv.setH at q3
            cases hx2 with
            | d _ => cases q3
            | fr _ => cases q3
            | at_ i0 p0 =>
              have d5 : HdD X.K Z5 fp5 σ H4 o (.at_ i0 p0) AS.no := by
                obtain ⟨⟨r, er, pr⟩, _⟩ := d3'.atOf
                exact .at_ er pr
              simp only at q3
              cases q4 : Pv.look (.at_ i0 p0) S5 with
              | none => rw [q4] at q3; cases q3
              | some ob =>
                rw [q4] at q3
                simp only at q3
                unfold Pv.setV at q3
                cases ob with
                | val _ => cases q3
                | oi _ _ _ => cases q3
                | od t ks vs =>
                  obtain ⟨G, dG, _⟩ := d5.look R5 q4
                  cases dG
                | ol os =>
                  obtain ⟨pa, vs, G, rfl, hpa, dl, _, _, go⟩ := d5.olAt R5 q4
                  cases kd with
                  | int n =>
                    obtain rfl := dk.intOf
                    simp only at q3
                    cases q5 : Pv.ixN os.length n with
                    | none => rw [q5] at q3; cases q3
                    | some j =>
                      rw [q5] at q3
                      simp only at q3
                      obtain ⟨G', dl', hG⟩ := dl.setD j dd5
                      obtain ⟨fp6, R6, s6, _⟩ := go _ _ G' S6 dl' hG q3
                      refine ⟨pa, vs, n, j, rfl, rfl, hpa, ?_, ?_⟩
                      · rw [dl.length]; exact q5
                      · exact e6 σ _ Z5 fp6 R6 (s5.trans s6) .refl
                  | _ => cases q3
/-! ### xs.append(e) -/
theorem vs_app {p1 p2 : Pos} (ha : VE X W a f qa) (hb : VE X W e g qb) (st : ∀ S x S1, f S = some (.ok x S1) → stale x = true → qb = true)
    (hbase : attributeBase a "append" X.env (eval a X.env) = eval a X.env)
    (hfew : ((backTo p2 (starEach [e] X.env)).all (fun x => !x.1) && (backToKw p2 (keywordEach [] X.env)).all (fun x => x.1.isSome)
      && decide ([e].length + ([] : List Keyword).length + (if ([] : List Keyword).isEmpty then 0 else 1) < 30)) = true)
    (hline : (p1.endLine == p2.line) = true) (hst : starEach [e] X.env = (false, eval e X.env) :: starEach [] X.env) (hs : swapsWith (.Call (.Attribute a "append" p1) [e] [] p2) none pos.line X.env = pure false) :
    VS X W rf (.Expr (.Call (.Attribute a "append" p1) [e] [] p2) pos) (fun S => Pv.rb (f S) (fun x S1 => if Pv.isOl x S1 = true then Pv.rb (g S1) (fun h S2 => Pv.rb (Pv.esc h S2) (fun d S3 => Pv.okS (Pv.appH x [d] S3)) ⟨⟩) ⟨⟩ else none) ⟨⟩) := by
  refine PS.imp (ps_expr (pe_bm PySem.F.plainAttrs_list PySem.F.slot_list_append PySem.F.type_list_append mt_append ha (pa_cons hb pa_nil hst) hbase hfew hline hst rfl) hs) fun D σ H h => ?_
  obtain ⟨Z, fp, S, R, e⟩ := h
  refine ⟨Z, fp, S, R, sEnd.bind e fun hx S1 e1 v H1 Z1 fp1 F1 R1 d1 s1 x1 nf1 e2 => ?_⟩
  have d1 : HdD X.K Z1 fp1 σ H1 v hx F1 := d1
  by_cases hol : Pv.isOl hx S1 = true
  · rw [if_pos hol] at e2
    refine ⟨?_, Z1, fp1, S1, R1, sEnd.bind0 s1 e2 fun hy S2 e3 w H2 Z2 fp2 F2 R2 d2 s2 x2 nf2 s02 nf02 e4 => ?_⟩
    · unfold Pv.isOl at hol
      split at hol
      · rename_i os lk
        obtain ⟨G, dS, _⟩ := d1.look R1 lk
        obtain ⟨pa, vs, _, rfl, hpa, _⟩ := dS.olOf
        exact .inl ⟨rfl, vs, .inl (.inl hpa)⟩
      · cases hol
    · have d2 : HdD X.K Z2 fp2 σ H2 w hy F2 := d2
      have d1' := d1.step R1 s2 fun z => x2 (st _ _ _ e1 z)
      cases q2 : Pv.esc hy S2 with
      | none => rw [q2] at e4; exact e4.elim
      | some r =>
        cases r with
        | exc x S5 => exact absurd q2 (esc_no_exc _ _ _ _)
        | ok d S3 =>
          rw [q2, Pv.rb_ok] at e4
          obtain ⟨Z3, fp3, R3, s3, dd, mz3, nz3, nf3⟩ := esc_ok R2 d2 s02 nf02 q2
          cases q3 : Pv.appH hx [d] S3 with
          | none => rw [q3] at e4; exact e4.elim
          | some S4 =>
            rw [q3, Pv.okS_some] at e4
            unfold Pv.appH at q3
            cases hx with
            | d _ => cases q3
            | fr _ => cases q3
            | at_ i0 p0 =>
              have d3 : HdD X.K Z3 fp3 σ H2 v (.at_ i0 p0) AS.no := by
                obtain ⟨⟨r, er, pr⟩, _⟩ := d1'.atOf
                exact .at_ er pr
              simp only at q3
              cases q4 : Pv.look (.at_ i0 p0) S3 with
              | none => rw [q4] at q3; cases q3
              | some ob =>
                rw [q4] at q3
                cases ob with
                | val _ => cases q3
                | oi _ _ _ => cases q3
                | od t ks vs => cases q3
                | ol os =>
                  simp only at q3
                  split at q3
                  · rename_i hz
                    obtain ⟨pa, vs, G, rfl, hpa, dl, _, _, go⟩ := d3.olAt R3 q4
                    obtain ⟨G', dl', hG⟩ := dl.append (DenL.cons dd .nil)
                    obtain ⟨fp4, R4, s4, _⟩ := go _ _ G' S4 dl' hG q3
                    have hz' := sizeOk_le hz
                    refine ⟨pa, vs, w, rfl, rfl, hpa, ?_, e4 σ _ Z3 fp4 R4 (s3.trans s4) .refl⟩
                    rw [dl.length]
                    simp at hz'
                    omega
                  · cases q3
  · rw [if_neg hol] at e2; exact e2.elim
end
end Ps
end

section
set_option Elab.async false
set_option linter.all false
set_option maxRecDepth 100000
set_option maxHeartbeats 4000000
/-! PvS4: while, for. -/
namespace Ps
open PySem PySem.Spec PyProof.Rows L2
open Pv (D SV Hd Stp Cxt Res Out)

/-! ### what is walked -/
/-- J yields vs where ok holds -/
structure Wk (J : L2.It) (vs : List V) (ok : Hp → Prop) : Prop where
  go : ∀ H i, ok H → i < vs.length → J.go i H
  stop : ∀ H i, ok H → vs.length ≤ i → J.stop i H
  yld : ∀ H i x H', ok H → J.yld i H x H' → i < vs.length → H' = H ∧ vs[i]? = some x
theorem Wk.list {K : PySem.W.Frag} {a : Addr} {vs : List V} : Wk (Itl K a) vs (fun H => SqL K H a vs) :=
  ⟨fun H i h hi => ⟨vs, vs[i], h, List.getElem?_eq_getElem hi⟩, fun H i h hi => ⟨vs, h, hi⟩, fun H i x H' h y _ => ⟨y.1, y.2 vs h⟩⟩
theorem Wk.tup {K : PySem.W.Frag} {a : Addr} {vs : List V} : Wk (Itt K a) vs (fun H => SqT K H a vs) :=
  ⟨fun H i h hi => ⟨vs, vs[i], h, List.getElem?_eq_getElem hi⟩, fun H i h hi => ⟨vs, h, hi⟩, fun H i x H' h y _ => ⟨y.1, y.2 vs h⟩⟩
def rngV (lo : Int) (n : Nat) : List V := (List.range n).map fun (k : Nat) => V.int (lo + (k : Int))
theorem Wk.range {lo : Int} {n : Nat} : Wk (Itr lo n) (rngV lo n) (fun _ => True) := by
  have hl : (rngV lo n).length = n := by simp [rngV]
  refine ⟨fun H i _ hi => by rw [hl] at hi; exact hi, fun H i _ hi => by rw [hl] at hi; exact hi, fun H i x H' _ y hi => ⟨y.1, ?_⟩⟩
  rw [hl] at hi
  obtain ⟨_, rfl⟩ := y
  unfold rngV
  rw [List.getElem?_map, List.getElem?_range hi]
  rfl
def ddI (K : PySem.W.Frag) : DDk (List D) L2.It := fun Z fp σ H ds J F => ∃ vs ok, Wk J vs ok ∧ DenL K Z H vs ds ∧ ∀ H', (∀ a o, Z a → H a = some o → H' a = some o) → ok H'
abbrev VI (X : Cx) (W : WE) (tg iter : Expr) (f : Pv.St → Res (List D)) (q : Bool) : Prop := PI X tg iter (tGen X.K W (ddI X.K) f q)
theorem PI.imp {X : Cx} {tg e : Expr} {t t' : TI} (h : PI X tg e t) (i : ∀ σ H Q, t' σ H Q → t σ H Q) : PI X tg e t' := ⟨fun pins s σ H Q I x => h.run pins s σ H Q I (i σ H Q x)⟩
/-- over a list or a tuple, whichever comes -/
def iSeq (K : PySem.W.Frag) (tl : TE) : TI := fun σ H R => tl σ H fun x H1 => (∃ a, x = .ref a ∧ (∃ xs, SqL K H1 a xs) ∧ R (Itl K a) H1) ∨ ∃ a, x = .ref a ∧ (∃ xs, SqT K H1 a xs) ∧ R (Itt K a) H1
theorem pi_seq {X : Cx} {tg l : Expr} {tl : TE} (hl : PE X l tl) : PI X tg l (iSeq X.K tl) := by
  refine ⟨fun pins s σ H R I h => ?_⟩
  refine thn (hl.run pins s σ H _ I h) fun v s1 ⟨x, H1, I1, r1, q1⟩ => ?_
  rcases q1 with ⟨a, e, ⟨xs, hq⟩, q⟩ | ⟨a, e, ⟨xs, hq⟩, q⟩
  · subst e
    cases r1
    obtain ⟨its, rv, p, hz⟩ := I1.list hq
    refine wpAny_pyIter_list p.isList ?_
    refine ⟨s1.heap.objs.size, [s1.heap.objs.size], _, _, H1, rfl, I1.kept (t' := s1.toks) fun b o e => Heap.get?_push_of_some _ e, turn_list a _, ⟨_, Heap.get?_push_size _ rfl, rfl, rfl⟩, fun b hb => ?_, q⟩
    have e : b = s1.heap.objs.size := by simpa using hb
    subst e
    exact I1.fpOk (Nat.le_refl _) (I1.hok.fresh (Nat.le_refl _))
  · subst e
    cases r1
    obtain ⟨its, rv, p, hz⟩ := I1.tuple hq
    refine wpAny_pyIter_tuple (show s1.heap.IsTuple a its.toArray from p) ?_
    refine ⟨s1.heap.objs.size, [s1.heap.objs.size], _, _, H1, rfl, I1.kept (t' := s1.toks) fun b o e => Heap.get?_push_of_some _ e, turn_tuple a _, ⟨_, Heap.get?_push_size _ rfl, rfl, rfl⟩, fun b hb => ?_, q⟩
    have e : b = s1.heap.objs.size := by simpa using hb
    subst e
    exact I1.fpOk (Nat.le_refl _) (I1.hok.fresh (Nat.le_refl _))

section
variable {K : PySem.W.Frag} {Z Z' : AS} {H H' : Hp}
/-- sequences that stay -/
theorem Den.tupStay {v : V} {ds : List D} (h : Den K Z H v (.tup ds)) : ∃ a xs, v = .ref a ∧ (∀ H', (∀ a o, Z a → H a = some o → H' a = some o) → SqT K H' a xs) ∧ DenL K Z H xs ds := by
  cases h with
  | tup r z t => exact ⟨_, _, rfl, fun H' k => SqT.ofR (r.elim (fun e => .inl (k _ _ z e)) fun ⟨o, e⟩ => .inr ⟨o, k _ _ z e⟩), t⟩
  | tupK r t => exact ⟨_, _, rfl, fun H' k => SqT.ofK r, t⟩
theorem Den.lstStay {v : V} {ds : List D} (h : Den K Z H v (.lst ds)) : ∃ a xs, v = .ref a ∧ (∀ H', (∀ a o, Z a → H a = some o → H' a = some o) → SqL K H' a xs) ∧ DenL K Z H xs ds := by
  cases h with
  | lst r z t => exact ⟨_, _, rfl, fun H' k => SqL.ofR (r.elim (fun e => .inl (k _ _ z e)) fun ⟨o, e⟩ => .inr ⟨o, k _ _ z e⟩), t⟩
  | lstK r t => exact ⟨_, _, rfl, fun H' k => SqL.ofK r, t⟩
theorem rng_den (lo : Int) (n : Nat) : DenL K Z H (rngV lo n) ((List.range n).map fun (k : Nat) => D.int (lo + (k : Int))) := by
  unfold rngV
  generalize List.range n = l
  induction l with
  | nil => exact .nil
  | cons k l ih => exact .cons (.int _) ih
end

section
variable {X : Cx} {W : WE} {rf : List Bool} {tg a b c e : Expr} {f g k : Pv.St → Res Hd} {q qa qb qc : Bool} {pos : Pos} {fS gS : Pv.St → Res Pv.Flow}
theorem vi_e (ha : VE X W a f qa) : VI X W tg a (fun S => Pv.rb (f S) (fun h S1 => Pv.rb (Pv.esc h S1) (fun d S2 => Pv.lf (Pv.seqOf d) S2) ⟨⟩) ⟨⟩) false := by
  refine PI.imp (pi_seq ha) fun σ H Q h => ?_
  obtain ⟨Z, fp, S, R, e⟩ := h
  refine ⟨Z, fp, S, R, tEnd.bind0 .refl (fun _ => .refl) e nofun fun hx S1 e1 v H1 Z1 fp1 F1 R1 d1 _ _ _ s1 _ nf1 e2 => ?_⟩
  have d1 : HdD X.K Z1 fp1 σ H1 v hx F1 := d1
  cases q1 : Pv.esc hx S1 with
  | none => rw [q1] at e2; exact e2.elim
  | some r =>
    cases r with
    | exc x S2 => exact absurd q1 (esc_no_exc _ _ _ _)
    | ok d S2 =>
      rw [q1, Pv.rb_ok] at e2
      obtain ⟨Z2, fp2, R2, s2, dd, _, _, _⟩ := esc_ok R1 d1 s1 nf1 q1
      cases d <;> simp only [Pv.seqOf] at e2 <;> try exact e2.elim
      · obtain ⟨p, xs, rfl, st, t⟩ := dd.tupStay
        refine .inr ⟨p, rfl, ⟨xs, st H1 fun _ _ _ e => e⟩, e2 _ H1 Z2 fp2 AS.no R2 s2 nofun no_new ⟨xs, _, Wk.tup, t, st⟩⟩
      · obtain ⟨p, xs, rfl, st, t⟩ := dd.lstStay
        refine .inl ⟨p, rfl, ⟨xs, st H1 fun _ _ _ e => e⟩, e2 _ H1 Z2 fp2 AS.no R2 s2 nofun no_new ⟨xs, _, Wk.list, t, st⟩⟩
theorem rngOk_le {i : Int} (h : Pv.rngOk i = true) : -(2 ^ 62) ≤ i ∧ i < 2 ^ 62 := by
  unfold Pv.rngOk at h
  have h1 : i.natAbs < 4611686018427387904 := by
    unfold Pv.bits at h
    have h := of_decide_eq_true h
    by_cases z : i.natAbs = 0
    · omega
    · exact (Nat.log2_lt z).mp h
  have e : (2 : Int) ^ 62 = 4611686018427387904 := by decide
  rw [e]
  omega
theorem vi_r1 {p : Pos} (hg : Gl X "range") (hm : X.mg "range" = none) (ha : VE X W a f qa) (hs : starEach [a] X.env = (false, eval a X.env) :: starEach [] X.env) (hs2 : starEach [a] X.env = [(false, eval a X.env)]) :
    VI X W tg (.Call (.Name "range" p) [a] [] pos) (fun S => Pv.rb (f S) (fun h S1 => (match h with | .d (.int i) => if Pv.rngOk i = true then some (.ok (Pv.rngL 0 i) S1) else none | _ => none)) ⟨⟩) qa := by
  refine PI.imp (pi_range1 hg hm (pa_cons ha pa_nil hs) hs2) fun σ H Q h => ?_
  obtain ⟨Z, fp, S, R, e⟩ := h
  refine ⟨Z, fp, S, R, tEnd.bind e (fun z => z) fun hx S1 e1 v H1 Z1 fp1 F1 R1 d1 s1 x1 nf1 e2 => ?_⟩
  have d1 : HdD X.K Z1 fp1 σ H1 v hx F1 := d1
  split at e2
  · rename_i i
    obtain rfl := d1.dOf.1.intOf
    split at e2
    · rename_i hr
      obtain ⟨r1, r2⟩ := rngOk_le hr
      refine ⟨_, rfl, r1, r2, e2 _ H1 Z1 fp1 AS.no R1 .refl (fun _ => .refl) no_new ⟨_, _, Wk.range, ?_, fun _ _ => True.intro⟩⟩
      have hr0 := fun n => rng_den (K := X.K) (Z := Z1) (H := H1) 0 n
      unfold Pv.rngL
      simpa using hr0 _
    · exact e2.elim
  · exact e2.elim
theorem vi_r2 {p : Pos} (hg : Gl X "range") (hm : X.mg "range" = none) (ha : VE X W a f qa) (hb : VE X W b g qb) (hs : starEach [a, b] X.env = (false, eval a X.env) :: starEach [b] X.env) (hs2 : starEach [b] X.env = (false, eval b X.env) :: starEach [] X.env) (hs3 : starEach [a, b] X.env = [(false, eval a X.env), (false, eval b X.env)]) (hs4 : starEach [b] X.env = [(false, eval b X.env)]) :
    VI X W tg (.Call (.Name "range" p) [a, b] [] pos) (fun S => Pv.rb (f S) (fun h S1 => Pv.rb (g S1) (fun k S2 => (match h, k with | .d (.int i), .d (.int j) => if (Pv.rngOk i && Pv.rngOk j) = true then some (.ok (Pv.rngL i j) S2) else none | _, _ => none)) ⟨⟩) ⟨⟩) (qa && qb) := by
  refine PI.imp (pi_range2 hg hm (pa_cons ha (pa_cons hb pa_nil hs2) hs) hs3 hs4) fun σ H Q h => ?_
  obtain ⟨Z, fp, S, R, e⟩ := h
  refine ⟨Z, fp, S, R, tEnd.bind e (fun z => (Bool.and_eq_true_iff.mp z).1) fun hx S1 e1 v H1 Z1 fp1 F1 R1 d1 s1 x1 nf1 e2 => ?_⟩
  have d1 : HdD X.K Z1 fp1 σ H1 v hx F1 := d1
  refine ⟨Z1, fp1, S1, R1, tEnd.bind e2 (fun z => (Bool.and_eq_true_iff.mp z).2) fun hy S2 e3 w H2 Z2 fp2 F2 R2 d2 s2 x2 nf2 e4 => ?_⟩
  have d2 : HdD X.K Z2 fp2 σ H2 w hy F2 := d2
  split at e4
  · rename_i i j
    obtain rfl := d1.dOf.1.intOf
    obtain rfl := d2.dOf.1.intOf
    split at e4
    · rename_i hr
      rw [Bool.and_eq_true] at hr
      obtain ⟨r1, r2⟩ := rngOk_le hr.1
      obtain ⟨r3, r4⟩ := rngOk_le hr.2
      refine ⟨_, _, rfl, ⟨r1, r2, r3, r4⟩, e4 _ H2 Z2 fp2 AS.no R2 .refl (fun _ => .refl) no_new ⟨_, _, Wk.range, ?_, fun _ _ => True.intro⟩⟩
      exact rng_den _ _
    · exact e4.elim
  · exact e4.elim

/-! ### for -/
theorem drop_cons {α : Type} {xs : List α} {i : Nat} (h : i < xs.length) : xs.drop i = xs[i] :: xs.drop (i + 1) := by
  exact List.drop_eq_getElem_cons h
/-- the body's end within a loop -/
theorem turn_end {K : PySem.W.Frag} {Z : AS} {fp : Nat → AS} {σ : L2.St} {H : Hp} {D : Ends} {r : Res Pv.Flow} {nxt : Pv.St → Res Pv.Flow} {N : L2.St → Hp → Prop} (hN : ∀ S' σ' H' Z' fp', Rel K Z' fp' S' σ' H' → Stq Z fp H Z' fp' H' → Kp rf σ σ' → sEnd K W rf (nxt S') Z' fp' σ' H' D → N σ' H')
    (e : sEnd K W rf (match r with
      | none => none
      | some (.exc e S2) => some (.exc e S2)
      | some (.ok .next S2) => nxt S2
      | some (.ok .cnt S2) => nxt S2
      | some (.ok .brk S2) => some (.ok .next S2)
      | some (.ok (.ret o) S2) => some (.ok (.ret o) S2)) Z fp σ H D) : sEnd K W rf r Z fp σ H { D with nx := N, ct := N, bk := D.nx } := by
  match r, e with
  | some (.exc x S2), e => exact e
  | some (.ok .next S2), e => exact fun σ' H' Z' fp' R' s' k' => hN S2 σ' H' Z' fp' R' s' k' (sEnd.step e s' k')
  | some (.ok .cnt S2), e => exact fun σ' H' Z' fp' R' s' k' => hN S2 σ' H' Z' fp' R' s' k' (sEnd.step e s' k')
  | some (.ok .brk S2), e => exact e
  | some (.ok (.ret o) S2), e => exact e
theorem vs_for {t : Pv.Tg} {fi : Pv.St → Res (List D)} {body : List Stmt} (hp : PassesOwn (model X.prog X.w) X.A X.env X.xe) (hc : X.calm = true) (hi : VI X W tg e fi qa) (hg : PG X tg (gD X.K rf (Pv.asgD t))) (hb : VSs X W rf body fS) (hs : ∀ x, foldedSetIterable e X.env x = pure x) :
    VS X W rf (.For tg e body [] pos) (fun S => Pv.rb (fi S) (fun xs S1 => Pv.forL fS (Pv.asgD t) xs S1) ⟨⟩) := by
  refine PS.imp (ps_for hp hc hi hg hb hs) fun D σ H h => ?_
  obtain ⟨Z, fp, S, R, e⟩ := h
  refine ⟨Z, fp, S, R, sEnd.bind e fun ds S1 e1 J H1 Z1 fp1 F1 R1 d1 s1 x1 nf1 e2 => ?_⟩
  obtain ⟨vs, ok, wk, dl, stay⟩ := d1
  have hl := dl.length
  have e3 := sEnd.step e2 s1 (.refl (σ := σ))
  refine ⟨fun i m σ' H' => m = vs.length - i ∧ i ≤ vs.length ∧ ∃ Z' fp' S', Rel X.K Z' fp' S' σ' H' ∧ Stq Z1 fp1 H1 Z' fp' H' ∧ sEnd X.K W rf (Pv.forL fS (Pv.asgD t) (ds.drop i) S') Z' fp' σ' H' D, ⟨_, rfl, Nat.zero_le _, Z1, fp1, S1, R1, .refl, by simpa using e3⟩, ?_⟩
  rintro i m σ2 H2 ⟨rfl, hi, Z2, fp2, S2, R2, s2, e4⟩
  have ok2 : ok H2 := stay H2 (R1.keepZ s2)
  by_cases hlt : i < vs.length
  · refine .inr ⟨wk.go H2 i ok2 hlt, fun σ' H' => i + 1 ≤ vs.length ∧ ∃ Z' fp' S', Rel X.K Z' fp' S' σ' H' ∧ Stq Z1 fp1 H1 Z' fp' H' ∧ sEnd X.K W rf (Pv.forL fS (Pv.asgD t) (ds.drop (i + 1)) S') Z' fp' σ' H' D, fun σ' H' ⟨h1, h2⟩ => ⟨_, by omega, rfl, h1, h2⟩, fun x H' y => ?_⟩
    obtain ⟨rfl, hx⟩ := wk.yld H2 i x H' ok2 y hlt
    have hd : i < ds.length := by omega
    rw [drop_cons hd] at e4
    simp only [Pv.forL] at e4
    have dx : Den X.K Z2 H' x ds[i] := by
      obtain ⟨v', h1, h2⟩ := dl.get (List.getElem?_eq_getElem hd)
      rw [hx] at h1
      cases h1
      exact R1.den s2 h2
    cases q1 : Pv.asgD t ds[i] S2 with
    | none => rw [q1] at e4; exact e4.elim
    | some S3 =>
      rw [q1] at e4
      refine ⟨Z2, fp2, S2, ds[i], S3, R2, dx, q1, fun σ3 fp3 R3 h3 k3 => ⟨Z2, fp3, S3, R3, ?_⟩⟩
      have st3 : Stq Z2 fp2 H' Z2 fp3 H' := Stq.slots fun j a z => .inl ⟨j, h3 j a z⟩
      refine turn_end (nxt := Pv.forL fS (Pv.asgD t) (ds.drop (i + 1))) (fun S4 σ4 H4 Z4 fp4 R4 s4 k4 e5 => ⟨by omega, Z4, fp4, S4, R4, s2.trans (st3.trans s4), e5⟩) ?_
      exact sEnd.step e4 st3 k3
  · have hi' : ds.drop i = [] := List.drop_eq_nil_of_le (by omega)
    rw [hi'] at e4
    exact .inl ⟨wk.stop H2 i ok2 (by omega), e4 σ2 H2 Z2 fp2 R2 .refl .refl⟩

/-! ### while -/
def whlN (f : Pv.St → Option (Pv.St ⊕ Out Pv.Flow)) : Nat → Pv.St → Res Pv.Flow
  | 0, _ => none
  | n + 1, S => (match f S with
    | none => none
    | some (.inl S') => whlN f n S'
    | some (.inr r) => some r)
theorem whl_fuel (f : Pv.St → Option (Pv.St ⊕ Out Pv.Flow)) (S : Pv.St) (r : Out Pv.Flow) (h : Pv.whlD f S = some r) : ∃ n, whlN f n S = some r := by
  refine Pv.whlD.partial_correctness f (fun S r => ∃ n, whlN f n S = some r) (fun w ih S r e => ?_) S r h
  split at e
  · cases e
  · rename_i S' q
    obtain ⟨n, hn⟩ := ih S' r e
    exact ⟨n + 1, by simp only [whlN, q]; exact hn⟩
  · rename_i r' q
    exact ⟨1, by simp only [whlN, q]; exact e⟩
theorem vs_while {ft : Pv.St → Res Bool} {body : List Stmt} (hp : PassesOwn (model X.prog X.w) X.A X.env X.xe) (hc : VT X W c ft qc) (hb : VSs X W rf body fS) : VS X W rf (.While c body [] pos) (fun S => Pv.whlD (Pv.whlT ft fS) S) := by
  refine PS.imp (ps_while hp hc hb) fun D σ H h => ?_
  obtain ⟨Z, fp, S, R, e⟩ := h
  cases q0 : Pv.whlD (Pv.whlT ft fS) S with
  | none =>
    have e : sEnd X.K W rf (Pv.whlD (Pv.whlT ft fS) S) Z fp σ H D := e
    rw [q0] at e; exact e.elim
  | some r =>
    have e : sEnd X.K W rf (Pv.whlD (Pv.whlT ft fS) S) Z fp σ H D := e
    rw [q0] at e
    obtain ⟨n, hn⟩ := whl_fuel _ _ _ q0
    refine ⟨fun m σ H => ∃ Z fp S, Rel X.K Z fp S σ H ∧ whlN (Pv.whlT ft fS) m S = some r ∧ sEnd X.K W rf (some r) Z fp σ H D, ⟨n, Z, fp, S, R, hn, e⟩, ?_⟩
    rintro m σ1 H1 ⟨Z1, fp1, S1, R1, h1, e1⟩
    refine ⟨Z1, fp1, S1, R1, ?_⟩
    cases m with
    | zero => simp [whlN] at h1
    | succ m =>
      simp only [whlN] at h1
      cases q1 : ft S1 with
      | none => simp [Pv.whlT, q1] at h1
      | some rc =>
        cases rc with
        | exc x S2 =>
          simp [Pv.whlT, q1] at h1
          subst h1
          exact fun H2 Z2 fp2 R2 s2 => e1 σ1 H2 Z2 fp2 R2 s2 .refl
        | ok b S2 =>
          intro b' H2 Z2 fp2 F R2 s2 _ _ d2
          obtain rfl : b' = b := d2
          cases b' with
          | false =>
            simp [Pv.whlT, q1] at h1
            subst h1
            rw [if_neg Bool.false_ne_true]
            exact e1 σ1 H2 Z2 fp2 R2 s2 .refl
          | true =>
            rw [if_pos rfl]
            refine ⟨_, fun σ' H' h => ⟨m, Nat.lt_succ_self m, h⟩, Z2, fp2, S2, R2, ?_⟩
            have e2 := sEnd.step e1 s2 (.refl (σ := σ1))
            match q2 : fS S2 with
            | none => simp [Pv.whlT, q1, q2] at h1
            | some (.exc x S3) =>
              simp [Pv.whlT, q1, q2] at h1
              subst h1
              exact e2
            | some (.ok .next S3) =>
              simp [Pv.whlT, q1, q2] at h1
              exact fun σ' H' Z' fp' R' s' k' => ⟨Z', fp', S3, R', h1, sEnd.step e2 s' k'⟩
            | some (.ok .cnt S3) =>
              simp [Pv.whlT, q1, q2] at h1
              exact fun σ' H' Z' fp' R' s' k' => ⟨Z', fp', S3, R', h1, sEnd.step e2 s' k'⟩
            | some (.ok .brk S3) =>
              simp [Pv.whlT, q1, q2] at h1
              subst h1
              exact e2
            | some (.ok (.ret o) S3) =>
              simp [Pv.whlT, q1, q2] at h1
              subst h1
              exact e2
end
end Ps
end

section
set_option Elab.async false
set_option linter.all false
set_option maxRecDepth 100000
set_option maxHeartbeats 4000000
/-! PvL: list comprehensions. -/
namespace Ps
open PySem PySem.Spec PyProof.Rows L2
open Pv (D SV Hd Stp Cxt Res Out)

section
variable {K : PySem.W.Frag} {Z Z' Z0 : AS} {fp fp' fp0 : Nat → AS} {S S' : Pv.St} {σ σ' : L2.St} {H H' H0 : Hp}
theorem Rel.wipe (R : Rel K Z fp S σ H) : ∀ vs : List Nat, ∃ fp', Rel K Z fp' (Pv.wipe S vs) (L2.wipe σ vs) H ∧ ∀ j a, fp' j a → fp j a
  | [] => ⟨fp, R, fun _ _ z => z⟩
  | v :: vs => by
    obtain ⟨fp', R', h⟩ := R.wipe vs
    refine ⟨_, R'.drop (i := v) (L2.wipe σ (v :: vs)) (by show ((L2.wipe σ vs).set v none).length = _; rw [List.length_set]) (fun j hj => ?_), fun j a f => ?_⟩
    · show ((L2.wipe σ vs).set v none)[j]? = _
      exact List.getElem?_set_ne (fun z => hj z.symm)
    · by_cases e : j = v
      · rw [if_pos e] at f; exact f.elim
      · rw [if_neg e] at f; exact h j a f
theorem wipe_none {S : Pv.St} {i : Nat} : ∀ {vs : List Nat}, i ∈ vs → Pv.sGet (Pv.wipe S vs) i = none
  | [], h => by cases h
  | v :: vs, h => by
    show Pv.sGet ((Pv.wipe S vs).set v none) i = none
    rw [sGet_set]
    by_cases e : v = i
    · by_cases q : v < (Pv.wipe S vs).length
      · rw [if_pos ⟨e, q⟩]
      · rw [if_neg fun z => q z.2, sGet_get, List.getElem?_eq_none (by omega)]; rfl
    · rw [if_neg fun z => e z.1]
      exact wipe_none ((List.mem_cons.mp h).resolve_left fun z => e z.symm)
/-- the frame's own slots are back -/
theorem Rel.unwipe {vs : List Nat} (R : Rel K Z fp S (L2.wipe σ vs) H) : Rel K Z fp S σ H :=
  ⟨by rw [← R.len, L2.wipe_length], fun i o e => let ⟨v, e1, d⟩ := R.slot i o e; ⟨v, (L2.wipe_some e1).1, d⟩, R.unset, R.apart, R.dis, R.trk⟩
/-- an object that is nobody's changes -/
theorem Rel.off (R : Rel K Z fp S σ H) {p : Addr} {u : HO} (h1 : ¬ Z p) (h2 : ∀ i, ¬ fp i p) : Rel K Z fp S σ (upd H p u) := by
  have k1 : ∀ a o, Z a → H a = some o → upd H p u a = some o := fun a o z e => by rw [upd_ne (fun h : a = p => h1 (by rw [← h]; exact z))]; exact e
  have k2 : ∀ i a o, fp i a → H a = some o → upd H p u a = some o := fun i a o z e => by rw [upd_ne (fun h : a = p => h2 i (by rw [← h]; exact z))]; exact e
  exact ⟨R.len, fun i o e => let ⟨v, e1, d⟩ := R.slot i o e; ⟨v, e1, d.mono k1 (fun _ z => z) (k2 i)⟩, R.unset, R.apart, R.dis, fun a z => let ⟨o, e⟩ := R.trk a z; ⟨o, k1 a o z e⟩⟩
theorem Stq.updD {p : Addr} {u : HO} (s : Stq Z0 fp0 H0 Z fp H) (h : H0 p = none) : Stq Z0 fp0 H0 Z fp (upd H p u) :=
  ⟨s.mono, s.newz, s.newf, fun a o e n => by rw [upd_ne (ne_of_none e h)]; exact s.keep a o e n, fun a e => by
    by_cases q : a = p
    · subst q; exact h
    · rw [upd_ne q] at e; exact s.there a e⟩
/-- nobody's object stays nobody's -/
theorem Stq.keepN {p : Addr} {u : HO} (s : Stq Z fp H Z' fp' H') (e : H p = some u) (n1 : ¬ Z p) (n2 : ∀ j, ¬ fp j p) : H' p = some u ∧ ¬ Z' p ∧ ∀ j, ¬ fp' j p := by
  refine ⟨s.keep p _ e n2, fun z => ?_, fun j z => ?_⟩
  · rcases s.newz p z with z | ⟨j, z⟩ | z
    · exact n1 z
    · exact n2 j z
    · rw [e] at z; cases z
  · rcases s.newf j p z with ⟨l, z⟩ | z
    · exact n2 l z
    · rw [e] at z; cases z
theorem asgNs_len : ∀ {is : List Nat} {ds : List D} {S S' : Pv.St}, Pv.asgNs is ds S = some S' → S'.length = S.length
  | [], [], S, S', e => by simp only [Pv.asgNs, Option.some.injEq] at e; rw [e]
  | [], _ :: _, S, S', e => by simp [Pv.asgNs] at e
  | _ :: _, [], S, S', e => by simp [Pv.asgNs] at e
  | i :: is, d :: ds, S, S', e => by
    simp only [Pv.asgNs] at e
    rw [asgNs_len e, List.length_set]
theorem asgNss_len : ∀ {is : List (List Nat)} {ds : List D} {S S' : Pv.St}, Pv.asgNss is ds S = some S' → S'.length = S.length
  | [], [], S, S', e => by simp only [Pv.asgNss, Option.some.injEq] at e; rw [e]
  | [], _ :: _, S, S', e => by simp [Pv.asgNss] at e
  | _ :: _, [], S, S', e => by simp [Pv.asgNss] at e
  | i :: is, d :: ds, S, S', e => by
    cases d with
    | tup xs =>
      simp only [Pv.asgNss] at e
      cases q : Pv.asgNs i xs S with
      | none => rw [q] at e; cases e
      | some S1 => rw [q] at e; rw [asgNss_len e, asgNs_len q]
    | _ => simp [Pv.asgNss] at e
theorem asgD_len {t : Pv.Tg} {d : D} {S S' : Pv.St} (e : Pv.asgD t d S = some S') : S'.length = S.length := by
  cases t with
  | nm i => simp only [Pv.asgD, Option.some.injEq] at e; rw [← e, List.length_set]
  | tp is => cases d <;> simp only [Pv.asgD] at e <;> first | exact asgNs_len e | cases e
  | tp2 is => cases d <;> simp only [Pv.asgD] at e <;> first | exact asgNss_len e | cases e
/-- only the own slots differ -/
theorem wipe_eq {vs : List Nat} {rfB : List Bool} (hl : σ'.length = σ.length) (hr : ∀ i, i ∉ vs → i < σ.length → rfB[i]? = some true) (kp : Kp rfB (L2.wipe σ vs) σ') : L2.wipe σ' vs = L2.wipe σ vs := by
  have out : ∀ (τ : L2.St) (i : Nat), i ∉ vs → (L2.wipe τ vs)[i]? = τ[i]? := fun τ i h => L2.wipe_out h
  have inn : ∀ (τ : L2.St) (i : Nat), i ∈ vs → i < τ.length → (L2.wipe τ vs)[i]? = some none := by
    intro τ i
    induction vs with
    | nil => intro h; cases h
    | cons v vs ih =>
      intro h hlt
      show ((L2.wipe τ vs).set v none)[i]? = some none
      by_cases e : v = i
      · subst e
        rw [List.getElem?_set_self (by rw [L2.wipe_length]; exact hlt)]
      · rw [List.getElem?_set_ne e]
        have hm : i ∈ vs := (List.mem_cons.mp h).resolve_left fun z => e z.symm
        clear ih
        clear hr kp out
        induction vs with
        | nil => cases hm
        | cons w ws ih2 =>
          show ((L2.wipe τ ws).set w none)[i]? = some none
          by_cases e2 : w = i
          · subst e2
            rw [List.getElem?_set_self (by rw [L2.wipe_length]; exact hlt)]
          · rw [List.getElem?_set_ne e2]
            have hm2 := (List.mem_cons.mp hm).resolve_left fun z => e2 z.symm
            exact ih2 (List.mem_cons_of_mem _ hm2) hm2
  apply List.ext_getElem?
  intro i
  by_cases hi : i ∈ vs
  · by_cases hlt : i < σ.length
    · rw [inn σ' i hi (by omega), inn σ i hi hlt]
    · rw [List.getElem?_eq_none (by rw [L2.wipe_length]; omega), List.getElem?_eq_none (by rw [L2.wipe_length]; omega)]
  · by_cases hlt : i < σ.length
    · rw [out σ' i hi]
      exact kp i (hr i hi hlt)
    · rw [List.getElem?_eq_none (by rw [L2.wipe_length]; omega), List.getElem?_eq_none (by rw [L2.wipe_length]; omega)]
end

/-- no exception -/
abbrev W0 : WE := fun _ _ _ => False
theorem PTs.imp {X : Cx} {e : List Expr} {t t' : TT} (h : PTs X e t) (i : ∀ σ H Q, t' σ H Q → t σ H Q) : PTs X e t' := ⟨fun pins s σ H Q I x => h.run pins s σ H Q I (i σ H Q x)⟩
section
variable {X : Cx} {W : WE} {rf : List Bool} {tg a b c e : Expr} {f g k : Pv.St → Res Hd} {q qa qb qc : Bool} {pos : Pos}
abbrev VTs (X : Cx) (W : WE) (e : List Expr) (f : Pv.St → Res Bool) (q : Bool) : Prop := PTs X e (tGen X.K W ddB f q)
theorem vts_nil : VTs X W [] (fun S => some (.ok true S)) true := by
  refine PTs.imp pts_nil fun σ H Q h => ?_
  obtain ⟨Z, fp, S, R, e⟩ := h
  exact e true H Z fp AS.no R .refl (fun _ => .refl) no_new rfl
theorem vts_one {ft : Pv.St → Res Bool} (h : VT X W c ft q) : VTs X W [c] ft q := pts_one h
theorem lc_read {t : Pv.Tg} {fi : Pv.St → Res (List D)} {ft : Pv.St → Res Bool} {vs : List Nat} {rfB : List Bool} {n : Nat} (hr : ∀ i, i ∉ vs → i < n → rfB[i]? = some true) {σ : L2.St} {H : Hp} {Q : VK} (hn : σ.length = n)
    (h : tOf X.K W (fun S => Pv.rb (fi S) (fun xs S1 => Pv.rb (Pv.nox (Pv.lcL vs (Pv.asgD t) ft (fun S2 => Pv.rb (f S2) (fun h S3 => Pv.esc h S3) ⟨⟩) xs (Pv.wipe S1 vs))) (fun ds S2 => if Pv.sizeOk xs.length = true then some (.ok (.fr (.ol (ds.map SV.val))) S2) else none) ⟨⟩) ⟨⟩) false σ H Q) :
    tLc (tGen X.K W (ddI X.K) fi q) (gD X.K rfB (Pv.asgD t)) (tGen X.K W0 ddB ft qb) (tOf X.K W0 f qa) vs σ H Q := by
  obtain ⟨Z, fp, S, R, e⟩ := h
  refine ⟨Z, fp, S, R, tEnd.bind0 .refl (fun _ => .refl) e nofun fun ds S1 e1 J H1 Z1 fp1 F1 R1 d1 _ _ _ s01 _ nf1 e2 => ?_⟩
  obtain ⟨ws, ok, wk, dl, stay⟩ := d1
  intro D hD
  cases qL : Pv.lcL vs (Pv.asgD t) ft (fun S2 => Pv.rb (f S2) (fun h S3 => Pv.esc h S3) ⟨⟩) ds (Pv.wipe S1 vs) with
  | none => rw [qL] at e2; exact e2.elim
  | some r =>
    cases r with
    | exc x S2 => rw [qL] at e2; exact e2.elim
    | ok out Send =>
      rw [qL, Pv.nox_ok, Pv.rb_ok] at e2
      by_cases hz : Pv.sizeOk ds.length = true
      · rw [if_pos hz] at e2
        have hz' := sizeOk_le hz
        have hl := dl.length
        obtain ⟨fpw, Rw, hw⟩ := R1.wipe vs
        have Inv : ∀ (i : Nat) (H' : Hp), Prop := fun i H' => ∃ Z' fp' S' acc accD rest, Rel X.K Z' fp' S' (L2.wipe σ vs) H' ∧ Stq Z1 fp1 H1 Z' fp' H' ∧ H' D = some (.lst acc) ∧ ¬ Z' D ∧ (∀ j, ¬ fp' j D) ∧ DenL X.K Z' H' acc accD ∧ acc.length ≤ i ∧
          Pv.lcL vs (Pv.asgD t) ft (fun S2 => Pv.rb (f S2) (fun h S3 => Pv.esc h S3) ⟨⟩) (ds.drop i) S' = some (.ok rest Send) ∧ out = accD ++ rest
        refine ⟨fun i m H' => m = ws.length - i ∧ i ≤ ws.length ∧ ∃ Z' fp' S' acc accD rest, Rel X.K Z' fp' S' (L2.wipe σ vs) H' ∧ Stq Z1 fp1 H1 Z' fp' H' ∧ H' D = some (.lst acc) ∧ ¬ Z' D ∧ (∀ j, ¬ fp' j D) ∧ DenL X.K Z' H' acc accD ∧ acc.length ≤ i ∧
          Pv.lcL vs (Pv.asgD t) ft (fun S2 => Pv.rb (f S2) (fun h S3 => Pv.esc h S3) ⟨⟩) (ds.drop i) S' = some (.ok rest Send) ∧ out = accD ++ rest, ⟨_, rfl, Nat.zero_le _, Z1, fpw, Pv.wipe S1 vs, [], [], out, Rw.ext (.upd hD), ⟨fun _ z => z, fun _ z => .inl z, fun j a z => .inl ⟨j, hw j a z⟩, fun a o e _ => Ext.upd hD a o e, fun a e => (Stq.ext (Z := Z1) (fp := fp1) (.upd hD)).there a e⟩, upd_same, fun z => ?_, fun j z => ?_, .nil, Nat.zero_le _, by simpa using qL, rfl⟩, ?_⟩
        · obtain ⟨o, z⟩ := R1.trk D z
          rw [hD] at z; cases z
        · obtain ⟨o, z⟩ := Rw.own_trk z
          rw [hD] at z; cases z
        · rintro i m H2 ⟨rfl, hi, Z2, fp2, S2, acc, accD, rest, R2, s2, hacc, nz, nfD, dacc, hai, hL, hout⟩
          have ok2 : ok H2 := stay H2 (R1.keepZ s2)
          by_cases hlt : i < ws.length
          · have hd : i < ds.length := by omega
            refine .inr ⟨wk.go H2 i ok2 hlt, fun H' => i + 1 ≤ ws.length ∧ ∃ Z' fp' S' acc accD rest, Rel X.K Z' fp' S' (L2.wipe σ vs) H' ∧ Stq Z1 fp1 H1 Z' fp' H' ∧ H' D = some (.lst acc) ∧ ¬ Z' D ∧ (∀ j, ¬ fp' j D) ∧ DenL X.K Z' H' acc accD ∧ acc.length ≤ i + 1 ∧
              Pv.lcL vs (Pv.asgD t) ft (fun S2 => Pv.rb (f S2) (fun h S3 => Pv.esc h S3) ⟨⟩) (ds.drop (i + 1)) S' = some (.ok rest Send) ∧ out = accD ++ rest, fun H' ⟨h1, h2⟩ => ⟨_, by omega, rfl, h1, h2⟩, fun x H' y => ?_⟩
            obtain ⟨rfl, hx⟩ := wk.yld H2 i x H' ok2 y hlt
            rw [drop_cons hd] at hL
            simp only [Pv.lcL] at hL
            have dx : Den X.K Z2 H' x ds[i] := by
              obtain ⟨v', h1, h2⟩ := dl.get (List.getElem?_eq_getElem hd)
              rw [hx] at h1
              cases h1
              exact R1.den s2 h2
            cases q1 : Pv.asgD t ds[i] S2 with
            | none => rw [q1] at hL; cases hL
            | some S3 =>
              rw [q1] at hL
              simp only at hL
              obtain ⟨bb, S4, hft, hL⟩ := rb_some hL
              refine ⟨Z2, fp2, S2, ds[i], S3, R2, dx, q1, fun σ3 fp3 R3 h3 k3 => ?_⟩
              have len3 : σ3.length = σ.length := by
                rw [R3.len, asgD_len q1, ← R2.len, L2.wipe_length]
              have we : L2.wipe σ3 vs = L2.wipe σ vs := wipe_eq len3 (fun i h1 h2 => hr i h1 (by omega)) k3
              refine ⟨we, Z2, fp3, S3, R3, ?_⟩
              rw [hft]
              intro b' H4 Z4 fp4 F4 R4 s4 _ _ d4
              obtain rfl : b' = bb := d4
              have st3 : Stq Z1 fp1 H1 Z2 fp3 H' := s2.trans (Stq.slots fun j a z => .inl ⟨j, h3 j a z⟩)
              have st4 := st3.trans s4
              have dacc3 : DenL X.K Z4 H4 acc accD := dacc.mono (fun a o z e => R3.keepZ s4 a o z e) s4.mono
              obtain ⟨hacc4, nz4, nf4⟩ := s4.keepN hacc nz (fun j z => nfD j (h3 j D z))
              cases b' with
              | true =>
                rw [if_pos rfl] at hL ⊢
                obtain ⟨dv, S6, hel, hL⟩ := rb_some hL
                obtain ⟨hh, S5, hf, he⟩ := rb_some hel
                obtain ⟨rest', S7, hL7, hfin⟩ := rb_some hL
                simp only [Option.some.injEq, Out.ok.injEq] at hfin
                obtain ⟨rfl, rfl⟩ := hfin
                refine ⟨Z4, fp4, S4, R4, ?_⟩
                rw [hf]
                intro y H5 Z5 fp5 F5 R5 s5 _ nf5 d5
                have d5 : HdD X.K Z5 fp5 σ3 H5 y hh F5 := d5
                have st5 := st4.trans s5
                obtain ⟨hacc5, nz5, nfD5⟩ := s5.keepN hacc4 nz4 nf4
                have F5D : ¬ F5 D := fun z => by
                  rcases nf5 D z with ⟨j, z⟩ | z
                  · exact nf4 j z
                  · rw [hacc4] at z; cases z
                obtain ⟨Z6, fp6, R6, s6, dd, mz6, nz6, nf6⟩ := esc_ok R5 d5 st5 (fun c z => (nf5 c z).elim (fun ⟨j, z⟩ => st4.newf j c z) fun z => .inr (st4.there c z)) he
                have nz6D : ¬ Z6 D := fun z => by
                  rcases nz6 D z with z | z | ⟨j, z⟩
                  · exact nz5 z
                  · exact F5D z
                  · exact nfD5 j z
                obtain ⟨fp7, R7, h7⟩ := R6.wipe vs
                rw [we] at R7
                have nf7D : ∀ j, ¬ fp7 j D := fun j z => nfD5 j (nf6 j D (h7 j D z))
                have dacc6 : DenL X.K Z6 H5 acc accD := dacc3.mono (fun a o z e => R4.keepZ s5 a o z e) fun a z => mz6 a (s5.mono a z)
                have kD : ∀ a o, Z6 a → H5 a = some o → upd H5 D (.lst (acc ++ [y])) a = some o := fun a o z e => by rw [upd_ne (fun h : a = D => nz6D (by rw [← h]; exact z))]; exact e
                refine ⟨acc, hacc5, by omega, by omega, Z6, fp7, Pv.wipe S6 vs, acc ++ [y], accD ++ [dv], rest', R7.off nz6D nf7D, (s6.trans (Stq.slots fun j a z => .inl ⟨j, h7 j a z⟩)).updD hD, upd_same, nz6D, nf7D, ?_, ?_, hL7, by rw [hout]; simp⟩
                · exact (dacc6.append (.cons dd .nil)).mono kD fun _ z => z
                · rw [List.length_append]; simpa using hai
              | false =>
                rw [if_neg Bool.false_ne_true] at hL ⊢
                obtain ⟨fp7, R7, h7⟩ := R4.wipe vs
                rw [we] at R7
                exact ⟨by omega, Z4, fp7, Pv.wipe S4 vs, acc, accD, rest, R7, st4.trans (Stq.slots fun j a z => .inl ⟨j, h7 j a z⟩), hacc4, nz4, fun j z => nf4 j (h7 j D z), dacc3, by omega, hL, hout⟩
          · have hi' : ds.drop i = [] := List.drop_eq_nil_of_le (by omega)
            rw [hi'] at hL
            simp only [Pv.lcL, Option.some.injEq, Out.ok.injEq] at hL
            obtain ⟨rfl, rfl⟩ := hL
            rw [List.append_nil] at hout
            subst hout
            refine .inl ⟨wk.stop H2 i ok2 (by omega), ?_⟩
            refine e2 (.ref D) H2 Z2 fp2 (fun b => b = D ∨ AS.no b) R2.unwipe (s01.trans s2) nofun (fun c z => ?_) (.fr (.ol hacc (DenSL.ofVals dacc) fun z => z) fun a z => ?_)
            · rcases z with z | z
              · subst z; exact .inr (s01.there c hD)
              · exact z.elim
            · rcases z with z | z
              · subst z; exact ⟨nz, nfD⟩
              · exact z.elim
      · rw [if_neg hz] at e2; exact e2.elim
end
end Ps
end

section
set_option Elab.async false
set_option linter.all false
set_option maxRecDepth 100000
set_option maxHeartbeats 4000000
/-! PvK: does a term match its syntax tree. -/
namespace Ps
open PySem PySem.Spec PyProof.Rows L2
open Pv (D SV Hd Stp Cxt Res Out)

mutual
def deq : D → D → Bool
  | .non, .non => true
  | .bl a, .bl b => a == b
  | .int a, .int b => decide (a = b)
  | .str a, .str b => decide (a = b)
  | .tup a, .tup b => deqL a b
  | .lst a, .lst b => deqL a b
  | _, _ => false
def deqL : List D → List D → Bool
  | [], [] => true
  | x :: xs, y :: ys => deq x y && deqL xs ys
  | _, _ => false
end
mutual
theorem deq_eq : ∀ {a b : D}, deq a b = true → a = b
  | .non, b, h => by cases b <;> simp [deq] at h ⊢
  | .bl a, b, h => by cases b <;> simp [deq] at h ⊢; exact h
  | .int a, b, h => by cases b <;> simp [deq] at h ⊢; exact h
  | .str a, b, h => by cases b <;> simp [deq] at h ⊢; exact h
  | .tup a, b, h => by cases b <;> simp [deq] at h ⊢; exact deqL_eq h
  | .lst a, b, h => by cases b <;> simp [deq] at h ⊢; exact deqL_eq h
  | .dct _ _ _, b, h => by cases b <;> simp [deq] at h
  | .obj _ _ _, b, h => by cases b <;> simp [deq] at h
theorem deqL_eq : ∀ {a b : List D}, deqL a b = true → a = b
  | [], b, h => by cases b <;> simp [deqL] at h ⊢
  | x :: xs, b, h => by
    cases b with
    | nil => simp [deqL] at h
    | cons y ys =>
      simp only [deqL, Bool.and_eq_true] at h
      rw [deq_eq h.1, deqL_eq h.2]
end

/-- what a program's text tells: the functions by number with how many parameters, constants, names that are nowhere bound, imported built-ins -/
structure Tab where
  fns : List (Str × Nat)
  pss : List (List Str)
  glbs : List (Str × D)
  free : List Str
  mods : List (Str × String)
/-- where code stands: the names of the slots, the scope, the slots of what was handed over, the names that may be stored -/
structure Ck where
  N : List Str
  sc : Scope
  rf : List Bool
  fo : Str → Bool
def dbg : Str := "__debug__"
def cdc : Str := "__classdict__"
def plainN (x : Str) : Bool := !(x == dbg) && !(x == cdc)
def visB (sc : Scope) (x : Str) : Bool := match sc.names.lookup x with | some .local => true | some .cell => true | some .free => true | _ => false
def locB (sc : Scope) (x : Str) : Bool := match sc.names.lookup x with | some .local => true | some .cell => true | _ => false
def glB (sc : Scope) (x : Str) : Bool := decide (sc.names.lookup x = some .globalImplicit)
def nmB (k : Ck) (i : Nat) (x : Str) : Bool := decide (k.N[i]? = some x) && locB k.sc x && k.fo x && nrf k.rf i
def biNm : Pv.Bi → Str
  | .len => "len"
  | .int => "int"
  | .abs => "abs"
  | .min => "min"
  | .max => "max"
  | .sorted => "sorted"
  | .list => "list"
  | .tuple => "tuple"
  | .gcd => "gcd"
  | .sum => "sum"
  | .any => "any"
  | .all => "all"
def isGcd : Pv.Bi → Bool
  | .gcd => true
  | _ => false
def biB (T : Tab) (b : Pv.Bi) (x : Str) : Bool := if isGcd b then decide ((x, "math.gcd") ∈ T.mods) else decide (x = biNm b) && decide (x ∈ T.free)
def tyS : Pv.Ty → Option Str
  | .int => some "int"
  | .bool => some "bool"
  | .str => some "str"
  | .tuple => some "tuple"
  | .list => some "list"
  | .dict => some "dict"
  | .none => none
def notStar : Expr → Bool
  | .Starred _ _ => false
  | _ => true
def notComp : Expr → Bool
  | .ListComp _ _ _ _ => false
  | .SetComp _ _ _ _ => false
  | .DictComp _ _ _ _ _ => false
  | _ => true
def notSet : Expr → Bool
  | .Set _ _ _ => false
  | _ => true
def notTup : Expr → Bool
  | .Tuple _ _ _ => false
  | _ => true
def notCall : Expr → Bool
  | .Call _ _ _ _ => false
  | _ => true
/-- and, or of one thing -/
def nrm : Expr → Expr
  | .BoolOp _ [y] _ => y
  | e => e
def cstOk : D → Const → Bool
  | .non, .none => true
  | .bl a, .bool b => a == b
  | .int a, .int b => decide (a = b)
  | .str a, .str b => decide (tx a = b)
  | _, _ => false
def stOk (a b : Pv.E) : Bool := !Pv.stl a || Pv.qt b
def rfBlk (n : Nat) (own : List Nat) : List Bool := (List.range n).map fun i => !own.contains i
def blkK (k : Ck) (scope : Scope) (own : List Nat) : Ck :=
  { N := k.N, sc := relS scope k.sc, rf := rfBlk k.N.length own, fo := fun x => decide (scope.names.lookup x = some .cell) || decide ((relS scope k.sc).names.lookup x = some .local) }
def ownP (k : Ck) (own : List Nat) : List (Str × Nat) := own.map fun i => (k.N.getD i dbg, i)
/-- targets -/
def okNs (k : Ck) : List Nat → List Expr → Bool
  | [], [] => true
  | i :: is, .Name x _ :: es => nmB k i x && okNs k is es
  | _, _ => false
def okNss (k : Ck) : List (List Nat) → List Expr → Bool
  | [], [] => true
  | is :: iss, .Tuple es _ _ :: ts => okNs k is es && okNss k iss ts
  | _, _ => false
def okTg (k : Ck) : Pv.Tg → Expr → Bool
  | .nm i, .Name x _ => nmB k i x
  | .tp is, .Tuple es _ _ => okNs k is es
  | .tp2 iss, .Tuple es _ _ => okNss k iss es
  | _, _ => false
def rngS : Str := "range"
def isiS : Str := "isinstance"
mutual
def okE (T : Tab) : Ck → Pv.E → Expr → Bool
  | k, .var i, e => (match nrm e with | .Name x _ => decide (k.N[i]? = some x) && visB k.sc x && plainN x | _ => false)
  | k, .cst d, e => (match nrm e with | .Constant c _ _ => cstOk d c | _ => false)
  | k, .glb _ d, e => (match nrm e with | .Name x _ => (match T.glbs.lookup x with | some d' => deq d' d | none => false) && glB k.sc x && plainN x | _ => false)
  | k, .bin o a b, e => (match nrm e with | .BinOp x op y _ => decide (op = bop o) && okE T k a x && okE T k b y && stOk a b | _ => false)
  | k, .neg a, e => (match nrm e with | .UnaryOp .USub x _ => okE T k a x | _ => false)
  | k, .cmp o a b, e => (match nrm e with | .Compare x [op] [y] _ => decide (op = cop o) && okE T k a x && okE T k b y && stOk a b && !behindInMarks (cop o) y | _ => false)
  | k, .and a b, e => (match nrm e with | .BoolOp .And (x :: y :: r) p => okE T k a x && okE T k b (.BoolOp .And (y :: r) p) | _ => false)
  | k, .or a b, e => (match nrm e with | .BoolOp .Or (x :: y :: r) p => okE T k a x && okE T k b (.BoolOp .Or (y :: r) p) | _ => false)
  | k, .not a, e => (match nrm e with | .UnaryOp .Not x _ => okE T k a x | _ => false)
  | k, .iff c a b, e => (match nrm e with | .IfExp z x y _ => okT T k c z && okE T k a x && okE T k b y | _ => false)
  | k, .tup es, e => (match nrm e with | .Tuple xs _ _ => okEs T k es xs | _ => false)
  | k, .lst es, e => (match nrm e with | .List xs _ => okEs T k es xs | _ => false)
  | k, .ix a b, e => (match nrm e with | .Subscript x y _ => okE T k a x && okE T k b y && stOk a b && plainIx y | _ => false)
  | k, .slc a lo hi, e => (match nrm e with | .Subscript x (.Slice l h none _) _ => okE T k a x && okEo T k lo l && okEo T k hi h && (!Pv.stl a || (qto lo && qto hi)) | _ => false)
  | k, .rev a, e => (match nrm e with | .Subscript x (.Slice none none (some (.UnaryOp .USub (.Constant (.int 1) _ _) _)) _) _ => okE T k a x | _ => false)
  | k, .call g es, e => (match nrm e with | .Call (.Name x _) xs [] _ => (match T.fns[g]? with | some (y, _) => decide (y = x) | none => false) && glB k.sc x && plainN x && okEs T k es xs | _ => false)
  | k, .bi b es, e => (match nrm e with | .Call (.Name x _) (y :: xs) [] _ => biB T b x && glB k.sc x && plainN x && okEs T k es (y :: xs) | _ => false)
  | k, .isi a ts, e => (match ts, nrm e with | [t], .Call (.Name x _) [y, .Name z _] [] _ => decide (x = isiS) && decide (isiS ∈ T.free) && glB k.sc isiS && decide (tyS t = some z) && decide (z ∈ T.free) && glB k.sc z && notStar y && okE T k a y | _, _ => false)
  | k, .lc e t it c own, a => (match nrm a with | .ListComp el [⟨tg, iter, ifs, 0⟩] scope _ => okIt T k it iter && notSet iter && okTg (blkK k scope own) t tg && okTo T (blkK k scope own) c ifs && okE T (blkK k scope own) e el && blkC k.N k.sc scope (ownP k own) | _ => false)
  | k, .stk, _ => true
  | _, _, _ => false
def okT (T : Tab) : Ck → Pv.T → Expr → Bool
  | k, .e (.cmp o a b), e => (match nrm e with | .Compare x [op] [y] _ => decide (op = cop o) && okE T k a x && okE T k b y && stOk a b && !behindInMarks (cop o) y | _ => false)
  | k, .e a, e => plainT (nrm e) && okE T k a (nrm e)
  | k, .and a b, e => (match nrm e with | .BoolOp .And (x :: y :: r) p => okT T k a x && okT T k b (.BoolOp .And (y :: r) p) | _ => false)
  | k, .or a b, e => (match nrm e with | .BoolOp .Or (x :: y :: r) p => okT T k a x && okT T k b (.BoolOp .Or (y :: r) p) | _ => false)
  | k, .not a, e => (match nrm e with | .UnaryOp .Not x _ => okT T k a x | _ => false)
def okTo (T : Tab) : Ck → Pv.To → List Expr → Bool
  | _, .no, xs => (match xs with | [] => true | _ => false)
  | k, .yes c, xs => (match xs with | [x] => okT T k c x | _ => false)
def okEs (T : Tab) : Ck → Pv.Es → List Expr → Bool
  | _, .nil, xs => (match xs with | [] => true | _ => false)
  | k, .cons e es, xs => (match xs with | x :: xs => okE T k e x && notStar x && (!Pv.stl e || Pv.qts es) && okEs T k es xs | _ => false)
def okEo (T : Tab) : Ck → Pv.Eo → Option Expr → Bool
  | _, .no, x => (match x with | none => true | _ => false)
  | k, .yes e, x => (match x with | some x => okE T k e x | _ => false)
def okIt (T : Tab) : Ck → Pv.It → Expr → Bool
  | k, .e e, x => okE T k e x
  | k, .r1 a, x => (match x with | .Call (.Name r _) [y] [] _ => decide (r = rngS) && decide (rngS ∈ T.free) && glB k.sc rngS && notStar y && okE T k a y | _ => false)
  | k, .r2 a b, x => (match x with | .Call (.Name r _) [y, z] [] _ => decide (r = rngS) && decide (rngS ∈ T.free) && glB k.sc rngS && notStar y && notStar z && okE T k a y && okE T k b z | _ => false)
def qto : Pv.Eo → Bool
  | .no => true
  | .yes e => Pv.qt e
end
end Ps
end

section
set_option Elab.async false
set_option linter.all false
set_option maxRecDepth 100000
set_option maxHeartbeats 4000000
/-! PvSd: a term that matches its syntax tree tells what the tree does: expressions. -/
namespace Ps
open PySem PySem.Spec PyProof.Rows L2
open Pv (D SV Hd Stp Cxt Res Out)

/-! ### where a place within an object may come out -/
theorem stale_newH (d : D) : stale (Pv.newH d) = false := by cases d <;> rfl
theorem stale_retH (d : SV) : stale (Pv.retH d) = false := by cases d <;> rfl
theorem lf_ok {α : Type} {o : Option α} {S S' : Pv.St} {a : α} (h : Pv.lf o S = some (.ok a S')) : o = some a := by
  cases o with
  | none => cases h
  | some b => simp only [Pv.lf, Option.some.injEq, Out.ok.injEq] at h; rw [h.1]
theorem binH_new {o : Pv.BOp} {x y h : Hd} {S : Pv.St} (e : Pv.binH o x y S = some h) : stale h = false := by
  unfold Pv.binH at e
  split at e
  · split at e
    · cases e; exact stale_newH _
    · cases e
  · cases e
theorem ixH_new {x y h : Hd} {S : Pv.St} (e : Pv.ixH x y S = some h) : stale h = false := by
  unfold Pv.ixH at e
  split at e
  · unfold Pv.subH at e
    repeat' split at e
    all_goals first | (cases e; rfl) | cases e
  · cases e
theorem attV_new {o : SV} {f : Nat} {h : Hd} (e : Pv.attV f o = some h) : stale h = false := by
  unfold Pv.attV at e
  repeat' split at e
  all_goals first | (cases e; rfl) | cases e
theorem attH_new {x h : Hd} {f : Nat} {S : Pv.St} (e : Pv.attH x f S = some h) : stale h = false := by
  unfold Pv.attH at e
  split at e
  · exact attV_new e
  · cases e
theorem biH_new {b : Pv.Bi} {hs : List Hd} {S : Pv.St} {h : Hd} (e : Pv.biH b hs S = some h) : stale h = false := by
  unfold Pv.biH at e
  repeat' split at e
  all_goals first | (cases e; first | rfl | exact stale_newH _) | cases e
theorem callH_new {C : Cxt} {g : Nat} {hs : List Hd} {S S' : Pv.St} {h : Hd} (e : Pv.callH C g hs S = some (.ok h S')) : stale h = false := by
  unfold Pv.callH at e
  split at e
  · obtain ⟨vs, S1, _, e⟩ := rb_some e
    split at e
    · split at e
      · simp only [Option.some.injEq, Out.ok.injEq] at e; rw [← e.1]; exact stale_retH _
      · cases e
    · split at e <;> cases e
    · cases e
  · cases e
theorem newH'_new {C : Cxt} {c g : Nat} {hs : List Hd} {S S' : Pv.St} {h : Hd} (e : Pv.newH' C c g hs S = some (.ok h S')) : stale h = false := by
  unfold Pv.newH' at e
  split at e
  · obtain ⟨vs, S1, _, e⟩ := rb_some e
    split at e
    · split at e
      · simp only [Option.some.injEq, Out.ok.injEq] at e; rw [← e.1]; rfl
      · cases e
    · split at e <;> cases e
    · cases e
  · cases e
theorem fin_d {o : Option Hd} (h : ∀ x, o = some x → stale x = false) {S S' : Pv.St} {x : Hd} (e : Pv.lf o S = some (.ok x S')) : stale x = false := h x (lf_ok e)
theorem ev_stl (C : Cxt) : ∀ (e : Pv.E) (S : Pv.St) (x : Hd) (S1 : Pv.St), Pv.ev C e S = some (.ok x S1) → stale x = true → Pv.stl e = true
  | .var i, S, x, S1, h, s => by
    simp only [Pv.ev] at h
    repeat' split at h
    all_goals first | (simp only [Option.some.injEq, Out.ok.injEq] at h; rw [← h.1] at s; cases s) | cases h
  | .pth i p, S, x, S1, h, s => by
    simp only [Pv.ev] at h
    simp only [Pv.stl]
    repeat' split at h
    all_goals first | (simp only [Option.some.injEq, Out.ok.injEq] at h; rw [← h.1] at s; first | exact s | cases s) | cases h
  | .cst d, S, x, S1, h, s => by
    simp only [Pv.ev, Option.some.injEq, Out.ok.injEq] at h; rw [← h.1] at s; cases s
  | .glb _ d, S, x, S1, h, s => by
    simp only [Pv.ev, Option.some.injEq, Out.ok.injEq] at h; rw [← h.1] at s; cases s
  | .bin o a b, S, x, S1, h, s => by
    simp only [Pv.ev] at h
    obtain ⟨_, _, _, h⟩ := rb_some h
    obtain ⟨_, _, _, h⟩ := rb_some h
    rw [fin_d (fun _ => binH_new) h] at s; cases s
  | .neg a, S, x, S1, h, s => by
    simp only [Pv.ev] at h
    obtain ⟨_, _, _, h⟩ := rb_some h
    split at h
    · simp only [Option.some.injEq, Out.ok.injEq] at h; rw [← h.1] at s; cases s
    · cases h
  | .cmp o a b, S, x, S1, h, s => by
    simp only [Pv.ev] at h
    obtain ⟨_, _, _, h⟩ := rb_some h
    obtain ⟨_, _, _, h⟩ := rb_some h
    split at h
    · simp only [Option.some.injEq, Out.ok.injEq] at h; rw [← h.1] at s; cases s
    · cases h
  | .chn o p a b c, S, x, S1, h, s => by
    simp only [Pv.ev] at h
    obtain ⟨_, _, _, h⟩ := rb_some h
    obtain ⟨_, _, _, h⟩ := rb_some h
    split at h
    · obtain ⟨_, _, _, h⟩ := rb_some h
      split at h
      · simp only [Option.some.injEq, Out.ok.injEq] at h; rw [← h.1] at s; cases s
      · cases h
    · simp only [Option.some.injEq, Out.ok.injEq] at h; rw [← h.1] at s; cases s
    · cases h
  | .and a b, S, x, S1, h, s => by
    simp only [Pv.ev] at h
    obtain ⟨_, S2, _, h⟩ := rb_some h
    split at h
    · exact ev_stl C b _ _ _ h s
    · simp only [Option.some.injEq, Out.ok.injEq] at h; rw [← h.1] at s; cases s
    · cases h
  | .or a b, S, x, S1, h, s => by
    simp only [Pv.ev] at h
    obtain ⟨_, S2, _, h⟩ := rb_some h
    split at h
    · simp only [Option.some.injEq, Out.ok.injEq] at h; rw [← h.1] at s; cases s
    · exact ev_stl C b _ _ _ h s
    · cases h
  | .not a, S, x, S1, h, s => by
    simp only [Pv.ev] at h
    obtain ⟨_, _, _, h⟩ := rb_some h
    split at h
    · simp only [Option.some.injEq, Out.ok.injEq] at h; rw [← h.1] at s; cases s
    · cases h
  | .iff c a b, S, x, S1, h, s => by
    simp only [Pv.ev] at h
    obtain ⟨_, S2, _, h⟩ := rb_some h
    simp only [Pv.stl, Bool.or_eq_true]
    split at h
    · exact .inl (ev_stl C a _ _ _ h s)
    · exact .inr (ev_stl C b _ _ _ h s)
  | .tup es, S, x, S1, h, s => by
    simp only [Pv.ev] at h
    obtain ⟨_, _, _, h⟩ := rb_some h
    split at h
    · simp only [Option.some.injEq, Out.ok.injEq] at h; rw [← h.1] at s; cases s
    · cases h
  | .lst es, S, x, S1, h, s => by
    simp only [Pv.ev] at h
    obtain ⟨_, _, _, h⟩ := rb_some h
    split at h
    · simp only [Option.some.injEq, Out.ok.injEq] at h; rw [← h.1] at s; cases s
    · cases h
  | .ix a b, S, x, S1, h, s => by
    simp only [Pv.ev] at h
    obtain ⟨_, _, _, h⟩ := rb_some h
    obtain ⟨_, _, _, h⟩ := rb_some h
    rw [fin_d (fun _ => ixH_new) h] at s; cases s
  | .slc a lo hi, S, x, S1, h, s => by
    simp only [Pv.ev] at h
    obtain ⟨_, _, _, h⟩ := rb_some h
    obtain ⟨_, _, _, h⟩ := rb_some h
    obtain ⟨_, _, _, h⟩ := rb_some h
    repeat' split at h
    all_goals first | (simp only [Option.some.injEq, Out.ok.injEq] at h; rw [← h.1, stale_newH] at s; cases s) | cases h
  | .rev a, S, x, S1, h, s => by
    simp only [Pv.ev] at h
    obtain ⟨_, _, _, h⟩ := rb_some h
    repeat' split at h
    all_goals first | (simp only [Option.some.injEq, Out.ok.injEq] at h; rw [← h.1, stale_newH] at s; cases s) | cases h
  | .call g es, S, x, S1, h, s => by
    simp only [Pv.ev] at h
    obtain ⟨_, _, _, h⟩ := rb_some h
    rw [callH_new h] at s; cases s
  | .mth c g a es, S, x, S1, h, s => by
    simp only [Pv.ev] at h
    obtain ⟨_, _, _, h⟩ := rb_some h
    split at h
    · split at h
      · obtain ⟨_, _, _, h⟩ := rb_some h
        rw [callH_new h] at s; cases s
      · cases h
    · cases h
  | .new c g es, S, x, S1, h, s => by
    simp only [Pv.ev] at h
    obtain ⟨_, _, _, h⟩ := rb_some h
    rw [newH'_new h] at s; cases s
  | .att a f, S, x, S1, h, s => by
    simp only [Pv.ev] at h
    obtain ⟨_, _, _, h⟩ := rb_some h
    rw [fin_d (fun _ => attH_new) h] at s; cases s
  | .bi b es, S, x, S1, h, s => by
    simp only [Pv.ev] at h
    obtain ⟨_, _, _, h⟩ := rb_some h
    rw [fin_d (fun _ => biH_new) h] at s; cases s
  | .isi a ts, S, x, S1, h, s => by
    simp only [Pv.ev] at h
    obtain ⟨_, _, _, h⟩ := rb_some h
    split at h
    · simp only [Option.some.injEq, Out.ok.injEq] at h; rw [← h.1] at s; cases s
    · cases h
  | .isx i ys, S, x, S1, h, s => by
    simp only [Pv.ev] at h
    split at h
    · simp only [Option.some.injEq, Out.ok.injEq] at h; rw [← h.1] at s; cases s
    · cases h
  | .dget a k z, S, x, S1, h, s => by
    simp only [Pv.ev] at h
    obtain ⟨_, _, _, h⟩ := rb_some h
    obtain ⟨_, _, _, h⟩ := rb_some h
    obtain ⟨_, _, _, h⟩ := rb_some h
    repeat' split at h
    all_goals first | (simp only [Option.some.injEq, Out.ok.injEq] at h; rw [← h.1] at s; cases s) | cases h
  | .dct0 t, S, x, S1, h, s => by
    simp only [Pv.ev, Option.some.injEq, Out.ok.injEq] at h; rw [← h.1] at s; cases s
  | .pop a, S, x, S1, h, s => by
    simp only [Pv.ev] at h
    obtain ⟨_, _, _, h⟩ := rb_some h
    repeat' split at h
    all_goals first | (simp only [Option.some.injEq, Out.ok.injEq] at h; rw [← h.1] at s; cases s) | cases h
  | .popi a b, S, x, S1, h, s => by
    simp only [Pv.ev] at h
    obtain ⟨_, _, _, h⟩ := rb_some h
    obtain ⟨_, _, _, h⟩ := rb_some h
    repeat' split at h
    all_goals first | (simp only [Option.some.injEq, Out.ok.injEq] at h; rw [← h.1] at s; cases s) | cases h
  | .lc e t it c own, S, x, S1, h, s => by
    simp only [Pv.ev] at h
    obtain ⟨_, _, _, h⟩ := rb_some h
    obtain ⟨_, _, _, h⟩ := rb_some h
    split at h
    · simp only [Option.some.injEq, Out.ok.injEq] at h; rw [← h.1] at s; cases s
    · cases h
  | .dc t' k v t it own, S, x, S1, h, s => by
    simp only [Pv.ev] at h
    obtain ⟨_, _, _, h⟩ := rb_some h
    obtain ⟨_, _, _, h⟩ := rb_some h
    split at h
    · simp only [Option.some.injEq, Out.ok.injEq] at h; rw [← h.1] at s; cases s
    · cases h
  | .stk, S, x, S1, h, s => by simp [Pv.ev] at h

/-! ### where code stands, as the layer has it -/
structure EO (T : Tab) (C : Cxt) (xc : Pv.Exc → Value) (X : Cx) (W : WE) (k : Ck) : Prop where
  hN : X.N = k.N
  nd : k.N.Nodup
  sc : X.env.scope = k.sc
  calm : X.calm = true
  fo : ∀ x, k.fo x = true → X.fn x = true ∨ k.sc.names.lookup x = some .local
  room : ∃ n, Room n X.A ∧ ∀ g x np, T.fns[g]? = some (x, np) → Calls X xc C n g np x
  tk : Takes X (wx xc W)
  glb : ∀ x d, T.glbs.lookup x = some d → ∃ v u, X.mg x = some u ∧ RelV v u ∧ ∀ Z H, Den X.K Z H v d
  free : ∀ x, x ∈ T.free → X.mg x = none
  mods : ∀ x id, (x, id) ∈ T.mods → X.mg x = some (.builtin id)
section
variable {T : Tab} {C : Cxt} {xc : Pv.Exc → Value} {X : Cx} {W : WE} {k : Ck}
theorem EO.units (V : EO T C xc X W k) : X.A.units + 66 < cLine := by
  obtain ⟨n, r, _⟩ := V.room
  have := r.un
  omega
theorem EO.vis (V : EO T C xc X W k) {x : Str} (h : visB k.sc x = true) : Vis X.env.scope x := by
  rw [V.sc]
  unfold visB at h
  split at h
  · exact .inl (by assumption)
  · exact .inr (.inl (by assumption))
  · exact .inr (.inr (by assumption))
  · cases h
theorem EO.loc (V : EO T C xc X W k) {x : Str} (h : locB k.sc x = true) : Loc X.env.scope x := by
  rw [V.sc]
  unfold locB at h
  split at h
  · exact .inl (by assumption)
  · exact .inr (by assumption)
  · cases h
theorem EO.gl (V : EO T C xc X W k) {x : Str} (h : glB k.sc x = true) : Gl X x := by
  show X.env.scope.names.lookup x = some .globalImplicit
  rw [V.sc]
  exact of_decide_eq_true h
theorem EO.nm (V : EO T C xc X W k) {i : Nat} {x : Str} (h : nmB k i x = true) : Nm X k.rf i x := by
  unfold nmB at h
  simp only [Bool.and_eq_true, decide_eq_true_eq] at h
  obtain ⟨⟨⟨h1, h2⟩, h3⟩, h4⟩ := h
  exact ⟨by rw [V.hN]; exact V.nd, by rw [V.hN]; exact h1, V.loc h2, by rw [V.sc]; exact V.fo x h3, h4⟩
theorem plain_dbg {x : Str} (h : plainN x = true) : (x == ("__debug__" : Str)) = false ∧ (x == ("__classdict__" : Str)) = false := by
  unfold plainN at h
  simp only [Bool.and_eq_true, Bool.not_eq_true'] at h
  exact h
theorem star_cons {e : Expr} {es : List Expr} {env : Env} (h : notStar e = true) : starEach (e :: es) env = (false, eval e env) :: starEach es env := by
  cases e <;> first | rfl | cases h
theorem boot_bi : ∀ b, isGcd b = false → bootBuiltins (biNm b) = some (biV b) ∧ biNm b ≠ "__name__"
  | .len, _ => ⟨by decide +kernel, by decide⟩
  | .int, _ => ⟨by decide +kernel, by decide⟩
  | .abs, _ => ⟨by decide +kernel, by decide⟩
  | .min, _ => ⟨by decide +kernel, by decide⟩
  | .max, _ => ⟨by decide +kernel, by decide⟩
  | .sorted, _ => ⟨by decide +kernel, by decide⟩
  | .list, _ => ⟨by decide +kernel, by decide⟩
  | .tuple, _ => ⟨by decide +kernel, by decide⟩
  | .gcd, h => by cases h
  | .sum, _ => ⟨by decide +kernel, by decide⟩
  | .any, _ => ⟨by decide +kernel, by decide⟩
  | .all, _ => ⟨by decide +kernel, by decide⟩
theorem EO.bi (V : EO T C xc X W k) {b : Pv.Bi} {x : Str} (h : biB T b x = true) : BiNm X b x := by
  unfold biB at h
  by_cases hg : isGcd b = true
  · rw [if_pos hg] at h
    cases b <;> first | cases hg | skip
    exact .mod (id := "math.gcd") rfl (V.mods _ _ (of_decide_eq_true h))
  · rw [if_neg hg] at h
    simp only [Bool.and_eq_true, decide_eq_true_eq] at h
    obtain ⟨rfl, h2⟩ := h
    obtain ⟨h3, h4⟩ := boot_bi b (by simpa using hg)
    have hf := V.free _ h2
    cases b <;> first | exact .fn rfl hf h3 h4 | exact .ty rfl hf h3 h4 | exact absurd rfl hg
theorem ty_pe (V : EO T C xc X W k) {t : Pv.Ty} {x : Str} {p : Pos} (h : tyS t = some x) (hf : x ∈ T.free) (hg : glB k.sc x = true) : PE X (.Name x p) (tC (.ty (tyN t))) := by
  have go : bootBuiltins x = some (.type (tyN t)) ∧ x ≠ "__name__" ∧ (x == ("__debug__" : Str)) = false := by
    cases t <;> simp only [tyS, Option.some.injEq] at h <;> first | (subst h; exact ⟨by decide +kernel, by decide, by decide⟩) | cases h
  exact pe_bltn (V.gl hg) (V.free _ hf) go.1 rfl go.2.1 go.2.2
theorem ve_nrm {a : Expr} {f : Pv.St → Res Hd} {q : Bool} (h : VE X W (nrm a) f q) : VE X W a f q := by
  unfold nrm at h
  split at h
  · exact ve_one h
  · exact h
theorem ve_weak {a : Expr} {f : Pv.St → Res Hd} {q : Bool} (h : VE X W a f q) : VE X W a f false :=
  PE.imp h fun σ H Q ⟨Z, fp, S, R, e⟩ => ⟨Z, fp, S, R, tEnd.weak e nofun⟩
theorem EO.blk (V : EO T C xc X W k) (s : Shared) (H : Hp) (scope : Scope) (C' : Addr) (cl : List (Str × Addr)) (fp : List Addr) (own : List Nat) : EO T C xc (X.blk s H scope (compEnvC scope cl C' X.env) fp) W0 (blkK k scope own) where
  hN := V.hN
  nd := V.nd
  sc := by
    show relabel scope X.env = relS scope k.sc
    rw [← V.sc]
    rfl
  calm := V.calm
  fo := fun x h => by
    have h : (decide (scope.names.lookup x = some .cell) || decide ((relS scope k.sc).names.lookup x = some .local)) = true := h
    rw [Bool.or_eq_true] at h
    rcases h with h | h
    · refine .inl ?_
      show (scope.names.lookup x == some .cell) = true
      rw [of_decide_eq_true h]
      rfl
    · exact .inr (of_decide_eq_true h)
  room := by
    obtain ⟨n, r, c⟩ := V.room
    exact ⟨n, r, fun g x np h => ⟨(c g x np h).ok, (c g x np h).len⟩⟩
  tk := fun u s' ⟨_, _, _, _, _, _, _, _, _, _, _, _, _, _, _, _, _, _, _, w⟩ => w.elim
  glb := V.glb
  free := V.free
  mods := V.mods
theorem pgs_names (V : EO T C xc X W k) : ∀ {is : List Nat} {es : List Expr}, okNs k is es = true → PGs X es (gDs X.K k.rf (Pv.asgNs is)) ∧ es.length = is.length ∧ (assignEach es X.env).length = es.length ∧ (assignEach es X.env).findIdx? (·.1) = none
  | [], [], _ => ⟨vgs_nil, rfl, rfl, rfl⟩
  | [], _ :: _, h => by simp [okNs] at h
  | i :: is, [], h => by simp [okNs] at h
  | i :: is, e :: es, h => by
    cases e <;> simp only [okNs] at h <;> try cases h
    rename_i x p
    rw [Bool.and_eq_true] at h
    obtain ⟨g, h1, h2, h3⟩ := pgs_names V h.2
    refine ⟨vgs_cons (V.nm h.1) g, by simp [h1], ?_, ?_⟩
    · show (_ :: assignEach es X.env).length = _
      simp [h2]
    · show ((false, assign (.Name x p) X.env) :: assignEach es X.env).findIdx? (·.1) = none
      rw [List.findIdx?_cons, h3]
      rfl
theorem pgs_names2 (V : EO T C xc X W k) : ∀ {iss : List (List Nat)} {es : List Expr}, okNss k iss es = true → PGs X es (gDs X.K k.rf (Pv.asgNss iss)) ∧ es.length = iss.length ∧ (assignEach es X.env).length = es.length ∧ (assignEach es X.env).findIdx? (·.1) = none
  | [], [], _ => ⟨vgss_nil, rfl, rfl, rfl⟩
  | [], _ :: _, h => by simp [okNss] at h
  | is :: iss, [], h => by simp [okNss] at h
  | is :: iss, e :: es, h => by
    cases e <;> simp only [okNss] at h <;> try cases h
    rename_i ts j p
    rw [Bool.and_eq_true] at h
    obtain ⟨g, h1, h2, h3⟩ := pgs_names2 V h.2
    obtain ⟨g', i1, i2, i3⟩ := pgs_names V h.1
    refine ⟨vgss_cons (vg_tp V.calm g' i1 i2 i3) g rfl, by simp [h1], ?_, ?_⟩
    · show (_ :: assignEach es X.env).length = _
      simp [h2]
    · show ((false, assign (.Tuple ts j p) X.env) :: assignEach es X.env).findIdx? (·.1) = none
      rw [List.findIdx?_cons, h3]
      rfl
theorem pg_tg (V : EO T C xc X W k) {t : Pv.Tg} {e : Expr} (h : okTg k t e = true) : PG X e (gD X.K k.rf (Pv.asgD t)) := by
  unfold okTg at h
  split at h
  · exact vg_nm (V.nm h)
  · obtain ⟨g, h1, h2, h3⟩ := pgs_names V h
    exact vg_tp V.calm g h1 h2 h3
  · obtain ⟨g, h1, h2, h3⟩ := pgs_names2 V h
    exact vg_tp2 V.calm g h1 h2 h3
  · cases h
end
end Ps
end

section
set_option Elab.async false
set_option linter.all false
set_option maxRecDepth 100000
set_option maxHeartbeats 4000000
/-! PvSe: soundness of the expressions' check. -/
namespace Ps
open PySem PySem.Spec PyProof.Rows L2
open Pv (D SV Hd Stp Cxt Res Out)

theorem st_of {a b : Pv.E} (C : Cxt) (h : stOk a b = true) : ∀ S x S1, Pv.ev C a S = some (.ok x S1) → stale x = true → Pv.qt b = true := fun S x S1 e s => by
  have := ev_stl C a S x S1 e s
  unfold stOk at h
  rw [this] at h
  simpa using h
theorem cst_ve {X : Cx} {W : WE} {d : D} {c : Const} {n : Nat} {p : Pos} (h : cstOk d c = true) : VE X W (.Constant c n p) (fun S => some (.ok (.d d) S)) true := by
  unfold cstOk at h
  split at h
  · exact ve_cst pe_non fun _ _ => .non
  · obtain rfl := (beq_iff_eq.mp h); exact ve_cst pe_bl fun _ _ => .bl _
  · obtain rfl := of_decide_eq_true h; exact ve_cst pe_int fun _ _ => .int _
  · obtain rfl := of_decide_eq_true h; exact ve_cst pe_str fun _ _ => .str _
  · cases h
theorem fold_ok {e : Expr} {env : Env} (h : notSet e = true) : ∀ x, foldedSetIterable e env x = pure x := by
  intro x
  cases e <;> first | rfl | cases h
theorem star_all {T : Tab} : ∀ {es : Pv.Es} {k : Ck} {xs : List Expr} {env : Env} {pos : Pos}, okEs T k es xs = true → (backTo pos (starEach xs env)).any (·.1) = false
  | .nil, k, xs, env, pos, h => by
    simp only [okEs] at h
    split at h
    · rfl
    · cases h
  | .cons e es, k, xs, env, pos, h => by
    simp only [okEs] at h
    split at h
    · rename_i x xs
      simp only [Bool.and_eq_true] at h
      rw [star_cons h.1.1.2]
      show (false || (backTo pos (starEach xs env)).any (·.1)) = false
      rw [star_all h.2]
      rfl
    · cases h
theorem rfBlk_ok {n : Nat} {own : List Nat} {i : Nat} (h1 : i ∉ own) (h2 : i < n) : (rfBlk n own)[i]? = some true := by
  unfold rfBlk
  rw [List.getElem?_map, List.getElem?_range h2]
  simp [h1]
theorem own_snd (k : Ck) (own : List Nat) : (ownP k own).map (·.2) = own := by
  unfold ownP
  rw [List.map_map]
  induction own with
  | nil => rfl
  | cons i is ih => simp only [List.map_cons, Function.comp, ih]
abbrev fLc (own : List Nat) (t : Pv.Tg) (fi : Pv.St → Res (List D)) (ft : Pv.St → Res Bool) (f : Pv.St → Res Hd) : Pv.St → Res Hd := fun S => Pv.rb (fi S) (fun xs S1 => Pv.rb (Pv.nox (Pv.lcL own (Pv.asgD t) ft (fun S2 => Pv.rb (f S2) (fun h S3 => Pv.esc h S3) ⟨⟩) xs (Pv.wipe S1 own))) (fun ds S2 => if Pv.sizeOk xs.length = true then some (.ok (.fr (.ol (ds.map SV.val))) S2) else none) ⟨⟩) ⟨⟩
/-- what a comprehension's parts tell -/
structure LcP (X : Cx) (W : WE) (tg iter el : Expr) (ifs : List Expr) (scope : Scope) (k : Ck) (own : List Nat) (t : Pv.Tg) (fi : Pv.St → Res (List D)) (ft : Pv.St → Res Bool) (f : Pv.St → Res Hd) (q qa qb : Bool) : Prop where
  hi : VI X W tg iter fi q
  ok : BlkOk X.N X.env.scope scope (ownP k own)
  hg : ∀ (s : Shared) (H : Hp) (C : Addr) (cl : List (Str × Addr)) (fp : List Addr), PG (X.blk s H scope (compEnvC scope cl C X.env) fp) tg (gD X.K (rfBlk k.N.length own) (Pv.asgD t))
  ht : ∀ (s : Shared) (H : Hp) (C : Addr) (cl : List (Str × Addr)) (fp : List Addr), VTs (X.blk s H scope (compEnvC scope cl C X.env) fp) W0 ifs ft qb
  he : ∀ (s : Shared) (H : Hp) (C : Addr) (cl : List (Str × Addr)) (fp : List Addr), VE (X.blk s H scope (compEnvC scope cl C X.env) fp) W0 el f qa
  hs : ∀ x, foldedSetIterable iter X.env x = pure x
theorem ve_lc {X : Cx} {W : WE} {tg iter el : Expr} {ifs : List Expr} {scope : Scope} {k : Ck} {own : List Nat} {t : Pv.Tg} {fi : Pv.St → Res (List D)} {ft : Pv.St → Res Bool} {f : Pv.St → Res Hd} {q qa qb : Bool} {pos : Pos} (hc : X.calm = true) (hN : X.N = k.N) (nd : X.N.Nodup) (P : LcP X W tg iter el ifs scope k own t fi ft f q qa qb) :
    VE X W (.ListComp el [⟨tg, iter, ifs, 0⟩] scope pos) (fLc own t fi ft f) false := by
  refine ⟨fun pins s σ H Q I h => ?_⟩
  refine (pe_lc (te := tOf X.K W0 f qa) (tt := tGen X.K W0 ddB ft qb) hc nd P.hi P.ok P.hg P.ht P.he P.hs).run pins s σ H Q I ?_
  rw [own_snd]
  exact lc_read (fun i h1 h2 => rfBlk_ok h1 h2) (by rw [← hN]; exact I.len) h
section
variable {X : Cx} {W : WE} {a : Expr} {q : Bool}
theorem vt_weak {f : Pv.St → Res Bool} (h : VT X W a f q) : VT X W a f false := PT.imp h fun σ H Q ⟨Z, fp, S, R, e⟩ => ⟨Z, fp, S, R, tEnd.weak e nofun⟩
theorem vts_weak {a : List Expr} {f : Pv.St → Res Bool} (h : VTs X W a f q) : VTs X W a f false := PTs.imp h fun σ H Q ⟨Z, fp, S, R, e⟩ => ⟨Z, fp, S, R, tEnd.weak e nofun⟩
theorem vi_weak {tg : Expr} {f : Pv.St → Res (List D)} (h : VI X W tg a f q) : VI X W tg a f false := PI.imp h fun σ H Q ⟨Z, fp, S, R, e⟩ => ⟨Z, fp, S, R, tEnd.weak e nofun⟩
/-- a test of one thing under and, or -/
theorem vt_nrm {f : Pv.St → Res Bool} (h : VT X W (nrm a) f false) (hw : ∀ op l p, nrm a = .BoolOp op l p → VW X W (nrm a) f false) : VT X W a f false ∧ ∀ op l p, a = .BoolOp op l p → VW X W a f false := by
  by_cases c : ∃ op y p, a = .BoolOp op [y] p
  · obtain ⟨op, y, p, rfl⟩ := c
    have w : VW X W (.BoolOp op [y] p) f false := by
      cases op
      · exact vw_and1 h
      · exact vw_or1 h
    exact ⟨PW.pt w, fun _ _ _ _ => w⟩
  · have e : nrm a = a := by
      unfold nrm
      split
      · exact absurd ⟨_, _, _, rfl⟩ c
      · rfl
    rw [e] at h hw
    exact ⟨h, hw⟩
end
section
variable {T : Tab} {C : Cxt} {xc : Pv.Exc → Value}
mutual
theorem soundE : ∀ (e : Pv.E) {k : Ck} {a : Expr} {X : Cx} {W : WE}, EO T C xc X W k → okE T k e a = true → VE X W a (fun S => Pv.ev C e S) (Pv.qt e)
  | .var i, k, a, X, W, V, h => by
    simp only [okE] at h
    refine ve_nrm ?_
    split at h
    · rename_i x p he
      rw [he]
      simp only [Bool.and_eq_true, decide_eq_true_eq] at h
      obtain ⟨⟨h1, h2⟩, h3⟩ := h
      obtain ⟨d1, d2⟩ := plain_dbg h3
      exact ve_var (by rw [V.hN]; exact h1) (V.vis h2) d1 d2
    · cases h
  | .pth i p, k, a, X, W, V, h => by simp [okE] at h
  | .cst d, k, a, X, W, V, h => by
    simp only [okE] at h
    refine ve_nrm ?_
    split at h
    · rename_i c n p he
      rw [he]
      exact cst_ve h
    · cases h
  | .glb x d, k, a, X, W, V, h => by
    simp only [okE] at h
    refine ve_nrm ?_
    split at h
    · rename_i y p he
      rw [he]
      simp only [Bool.and_eq_true] at h
      obtain ⟨⟨h1, h2⟩, h3⟩ := h
      obtain ⟨d1, d2⟩ := plain_dbg h3
      split at h1
      · rename_i d' hl
        obtain rfl := deq_eq h1
        obtain ⟨v, u, hm, r, hd⟩ := V.glb _ _ hl
        exact ve_glb (V.gl h2) hm r d1 hd
      · cases h1
    · cases h
  | .bin o a b, k, e, X, W, V, h => by
    simp only [okE] at h
    refine ve_nrm ?_
    split at h
    · rename_i x op y p he
      rw [he]
      simp only [Bool.and_eq_true, decide_eq_true_eq] at h
      obtain ⟨⟨⟨rfl, h1⟩, h2⟩, h3⟩ := h
      exact ve_bin (soundE a V h1) (soundE b V h2) (st_of C h3)
    · cases h
  | .neg a, k, e, X, W, V, h => by
    simp only [okE] at h
    refine ve_nrm ?_
    split at h
    · rename_i x p he
      rw [he]
      exact ve_neg (soundE a V h)
    · cases h
  | .cmp o a b, k, e, X, W, V, h => by
    simp only [okE] at h
    refine ve_nrm ?_
    split at h
    · rename_i x op y p he
      rw [he]
      simp only [Bool.and_eq_true, decide_eq_true_eq, Bool.not_eq_true'] at h
      obtain ⟨⟨⟨⟨rfl, h1⟩, h2⟩, h3⟩, h4⟩ := h
      exact ve_cmp (by have := V.units; omega) (soundE a V h1) (soundE b V h2) (st_of C h3) h4
    · cases h
  | .chn o p a b c, k, e, X, W, V, h => by simp [okE] at h
  | .and a b, k, e, X, W, V, h => by
    simp only [okE] at h
    refine ve_nrm ?_
    split at h
    · rename_i x y r p he
      rw [he]
      simp only [Bool.and_eq_true] at h
      exact ve_and (soundE a V h.1) (soundE b V h.2)
    · cases h
  | .or a b, k, e, X, W, V, h => by
    simp only [okE] at h
    refine ve_nrm ?_
    split at h
    · rename_i x y r p he
      rw [he]
      simp only [Bool.and_eq_true] at h
      exact ve_or (soundE a V h.1) (soundE b V h.2)
    · cases h
  | .not a, k, e, X, W, V, h => by
    simp only [okE] at h
    refine ve_nrm ?_
    split at h
    · rename_i x p he
      rw [he]
      exact ve_not (soundE a V h)
    · cases h
  | .iff c a b, k, e, X, W, V, h => by
    simp only [okE] at h
    refine ve_nrm ?_
    split at h
    · rename_i z x y p he
      rw [he]
      simp only [Bool.and_eq_true] at h
      exact ve_weak (ve_iff (soundT c V h.1.1).1 (soundE a V h.1.2) (soundE b V h.2))
    · cases h
  | .tup es, k, e, X, W, V, h => by
    simp only [okE] at h
    refine ve_nrm ?_
    split at h
    · rename_i xs j p he
      rw [he]
      exact ve_tup (soundD es V h)
    · cases h
  | .lst es, k, e, X, W, V, h => by
    simp only [okE] at h
    refine ve_nrm ?_
    split at h
    · rename_i xs p he
      rw [he]
      exact ve_lst (soundD es V h)
    · cases h
  | .ix a b, k, e, X, W, V, h => by
    simp only [okE] at h
    refine ve_nrm ?_
    split at h
    · rename_i x y p he
      rw [he]
      simp only [Bool.and_eq_true] at h
      obtain ⟨⟨⟨h1, h2⟩, h3⟩, h4⟩ := h
      exact ve_ix (soundE a V h1) (soundE b V h2) (st_of C h3) h4
    · cases h
  | .slc a lo hi, k, e, X, W, V, h => by
    simp only [okE] at h
    refine ve_nrm ?_
    split at h
    · rename_i x l u p2 p he
      rw [he]
      simp only [Bool.and_eq_true] at h
      obtain ⟨⟨⟨h1, h2⟩, h3⟩, h4⟩ := h
      refine ve_weak (ve_slc (soundE a V h1) (soundO lo V h2) (soundO hi V h3) fun S x S1 e s => ?_)
      have := ev_stl C a S x S1 e s
      rw [this] at h4
      simpa using h4
    · cases h
  | .rev a, k, e, X, W, V, h => by
    simp only [okE] at h
    refine ve_nrm ?_
    split at h
    · rename_i he
      rw [he]
      exact ve_weak (ve_rev (soundE a V h))
    · cases h
  | .call g es, k, e, X, W, V, h => by
    simp only [okE] at h
    refine ve_nrm ?_
    split at h
    · rename_i x p1 xs p2 he
      rw [he]
      simp only [Bool.and_eq_true] at h
      obtain ⟨⟨⟨h1, h2⟩, h3⟩, h4⟩ := h
      obtain ⟨d1, d2⟩ := plain_dbg h3
      split at h1
      · rename_i y np hf
        obtain rfl := of_decide_eq_true h1
        obtain ⟨n, r, c⟩ := V.room
        cases xs with
        | nil =>
          cases es with
          | nil =>
            have h := ve_call0 (W := W) (p := p1) (pos := p2) (c _ _ _ hf) r (V.gl h2) V.tk d1
            simp only [Pv.ev, Pv.evs]
            exact h
          | cons e es => simp [okEs] at h4
        | cons x0 xs =>
          have hst : starEach (x0 :: xs) X.env = (false, eval x0 X.env) :: starEach xs X.env := by
            cases es with
            | nil => simp [okEs] at h4
            | cons e es =>
              simp only [okEs, Bool.and_eq_true] at h4
              exact star_cons h4.1.1.2
          have hpl : (backTo p2 (starEach xs X.env)).any (·.1) = false := by
            have := star_all (pos := p2) (env := X.env) h4
            rw [hst] at this
            exact this
          exact ve_call (c _ _ _ hf) r (V.gl h2) V.tk (soundS es V h4) d1 hst hpl
      · cases h1
    · cases h
  | .mth c g a es, k, e, X, W, V, h => by simp [okE] at h
  | .new c g es, k, e, X, W, V, h => by simp [okE] at h
  | .att a f, k, e, X, W, V, h => by simp [okE] at h
  | .bi b es, k, e, X, W, V, h => by
    simp only [okE] at h
    refine ve_nrm ?_
    split at h
    · rename_i x p1 y xs p2 he
      rw [he]
      simp only [Bool.and_eq_true] at h
      obtain ⟨⟨⟨h1, h2⟩, h3⟩, h4⟩ := h
      obtain ⟨d1, d2⟩ := plain_dbg h3
      have hst : starEach (y :: xs) X.env = (false, eval y X.env) :: starEach xs X.env := by
        cases es with
        | nil => simp [okEs] at h4
        | cons e es =>
          simp only [okEs, Bool.and_eq_true] at h4
          exact star_cons h4.1.1.2
      have hpl : (backTo p2 (starEach xs X.env)).any (·.1) = false := by
        have := star_all (pos := p2) (env := X.env) h4
        rw [hst] at this
        exact this
      exact ve_bi V.calm V.units (V.gl h2) (V.bi h1) (soundS es V h4) d1 hst hpl
    · cases h
  | .isi a ts, k, e, X, W, V, h => by
    simp only [okE] at h
    refine ve_nrm ?_
    split at h
    · rename_i t x p1 y z p2 p3 he
      rw [he]
      simp only [Bool.and_eq_true, decide_eq_true_eq] at h
      obtain ⟨⟨⟨⟨⟨⟨⟨rfl, h1⟩, h2⟩, h3⟩, h4⟩, h5⟩, h6⟩, h7⟩ := h
      exact ve_weak (ve_isi1 (V.gl h2) (V.free _ h1) (by decide +kernel) (ty_pe V h3 h4 h5) (soundE a V h7) (star_cons h6) (star_cons rfl))
    · cases h
  | .isx i ys, k, e, X, W, V, h => by simp [okE] at h
  | .dget a k' z, k, e, X, W, V, h => by simp [okE] at h
  | .dct0 t, k, e, X, W, V, h => by simp [okE] at h
  | .pop a, k, e, X, W, V, h => by simp [okE] at h
  | .popi a b, k, e, X, W, V, h => by simp [okE] at h
  | .lc e t it c own, k, a, X, W, V, h => by
    simp only [okE] at h
    refine ve_nrm ?_
    split at h
    · rename_i el tg iter ifs scope p he
      rw [he]
      simp only [Bool.and_eq_true] at h
      obtain ⟨⟨⟨⟨⟨h1, h2⟩, h3⟩, h4⟩, h5⟩, h6⟩ := h
      exact ve_lc (q := false) (k := k) V.calm V.hN (by rw [V.hN]; exact V.nd) ⟨soundI it V h1, by rw [V.hN, V.sc]; exact blkOk_by h6, fun s H C' cl fp => pg_tg (V.blk s H scope C' cl fp own) h3, fun s H C' cl fp => soundTo c (V.blk s H scope C' cl fp own) h4, fun s H C' cl fp => soundE e (V.blk s H scope C' cl fp own) h5, fold_ok h2⟩
    · cases h
  | .dc t' a b t it own, k, e, X, W, V, h => by simp [okE] at h
  | .stk, k, e, X, W, V, h => ve_stk
theorem soundT : ∀ (t : Pv.T) {k : Ck} {a : Expr} {X : Cx} {W : WE}, EO T C xc X W k → okT T k t a = true → VT X W a (fun S => Pv.tst C t S) false ∧ ∀ op l p, a = .BoolOp op l p → VW X W a (fun S => Pv.tst C t S) false
  | .e e0, k, a, X, W, V, h => by
    have key : VT X W (nrm a) (fun S => Pv.tst C (.e e0) S) false := by
      cases e0
      case cmp o a1 b1 =>
        simp only [okT] at h
        split at h
        · rename_i x op y p he
          rw [he]
          simp only [Bool.and_eq_true, decide_eq_true_eq, Bool.not_eq_true'] at h
          obtain ⟨⟨⟨⟨rfl, h1⟩, h2⟩, h3⟩, h4⟩ := h
          exact vt_weak (vt_cmp (by have := V.units; omega) (soundE a1 V h1) (soundE b1 V h2) (st_of C h3) h4)
        · cases h
      all_goals
        simp only [okT, Bool.and_eq_true] at h
        exact vt_weak (vt_leaf (soundE _ V h.2) h.1)
    refine vt_nrm key fun op l p hb => ?_
    have np : plainT (nrm a) = true ∨ ∃ x op y p, nrm a = .Compare x [op] [y] p := by
      cases e0
      case cmp o a1 b1 =>
        simp only [okT] at h
        split at h
        · exact .inr ⟨_, _, _, _, by assumption⟩
        · cases h
      all_goals
        simp only [okT, Bool.and_eq_true] at h
        exact .inl h.1
    rw [hb] at np
    rcases np with np | ⟨_, _, _, _, np⟩
    · cases np
    · cases np
  | .and a1 b1, k, a, X, W, V, h => by
    simp only [okT] at h
    split at h
    · rename_i x y r p he
      simp only [Bool.and_eq_true] at h
      have hb := (soundT b1 V h.2).2 _ _ _ rfl
      have ha := (soundT a1 V h.1).1
      have hw : VW X W (nrm a) (fun S => Pv.tst C (.and a1 b1) S) false := by
        rw [he]
        exact vw_and ha hb
      exact vt_nrm (PW.pt hw) fun _ _ _ _ => hw
    · cases h
  | .or a1 b1, k, a, X, W, V, h => by
    simp only [okT] at h
    split at h
    · rename_i x y r p he
      simp only [Bool.and_eq_true] at h
      have hb := (soundT b1 V h.2).2 _ _ _ rfl
      have ha := (soundT a1 V h.1).1
      have hw : VW X W (nrm a) (fun S => Pv.tst C (.or a1 b1) S) false := by
        rw [he]
        exact vw_or ha hb
      exact vt_nrm (PW.pt hw) fun _ _ _ _ => hw
    · cases h
  | .not a1, k, a, X, W, V, h => by
    simp only [okT] at h
    split at h
    · rename_i x p he
      refine vt_nrm ?_ fun op l p hb => by rw [he] at hb; cases hb
      rw [he]
      exact vt_not (soundT a1 V h).1
    · cases h
theorem soundTo : ∀ (t : Pv.To) {k : Ck} {a : List Expr} {X : Cx} {W : WE}, EO T C xc X W k → okTo T k t a = true → VTs X W a (fun S => Pv.tstO C t S) false
  | .no, k, a, X, W, V, h => by
    simp only [okTo] at h
    split at h
    · exact vts_weak vts_nil
    · cases h
  | .yes c, k, a, X, W, V, h => by
    simp only [okTo] at h
    split at h
    · exact vts_one (soundT c V h).1
    · cases h
theorem soundS : ∀ (es : Pv.Es) {k : Ck} {a : List Expr} {X : Cx} {W : WE}, EO T C xc X W k → okEs T k es a = true → VA X W a (fun S => Pv.evs C es S) (Pv.qts es)
  | .nil, k, a, X, W, V, h => by
    simp only [okEs] at h
    split at h
    · exact va_nil
    · cases h
  | .cons e es, k, a, X, W, V, h => by
    simp only [okEs] at h
    split at h
    · rename_i x xs
      simp only [Bool.and_eq_true] at h
      obtain ⟨⟨⟨h1, h2⟩, h3⟩, h4⟩ := h
      refine va_cons (soundE e V h1) (soundS es V h4) (fun S x S1 he s => ?_) (star_cons h2)
      have := ev_stl C e S x S1 he s
      rw [this] at h3
      simpa using h3
    · cases h
theorem soundD : ∀ (es : Pv.Es) {k : Ck} {a : List Expr} {X : Cx} {W : WE}, EO T C xc X W k → okEs T k es a = true → VD X W a (fun S => Pv.evD C es S) (Pv.qts es)
  | .nil, k, a, X, W, V, h => by
    simp only [okEs] at h
    split at h
    · exact vd_nil
    · cases h
  | .cons e es, k, a, X, W, V, h => by
    simp only [okEs] at h
    split at h
    · rename_i x xs
      simp only [Bool.and_eq_true] at h
      obtain ⟨⟨⟨h1, h2⟩, h3⟩, h4⟩ := h
      exact vd_cons (soundE e V h1) (soundD es V h4) (star_cons h2)
    · cases h
theorem soundO : ∀ (e : Pv.Eo) {k : Ck} {a : Option Expr} {X : Cx} {W : WE}, EO T C xc X W k → okEo T k e a = true → VO X W a (fun S => Pv.evO C e S) (qto e)
  | .no, k, a, X, W, V, h => by
    simp only [okEo] at h
    split at h
    · exact vo_none
    · cases h
  | .yes e, k, a, X, W, V, h => by
    simp only [okEo] at h
    split at h
    · exact vo_some (soundE e V h)
    · cases h
theorem soundI : ∀ (it : Pv.It) {k : Ck} {a tg : Expr} {X : Cx} {W : WE}, EO T C xc X W k → okIt T k it a = true → VI X W tg a (fun S => Pv.evI C it S) false
  | .e e, k, a, tg, X, W, V, h => by
    simp only [okIt] at h
    exact vi_e (soundE e V h)
  | .r1 a1, k, a, tg, X, W, V, h => by
    simp only [okIt] at h
    split at h
    · simp only [Bool.and_eq_true, decide_eq_true_eq] at h
      obtain ⟨⟨⟨⟨rfl, h1⟩, h2⟩, h3⟩, h4⟩ := h
      have := star_cons (es := []) (env := X.env) h3
      exact vi_weak (vi_r1 (V.gl h2) (V.free _ h1) (soundE a1 V h4) this this)
    · cases h
  | .r2 a1 b1, k, a, tg, X, W, V, h => by
    simp only [okIt] at h
    split at h
    · rename_i y z _
      simp only [Bool.and_eq_true, decide_eq_true_eq] at h
      obtain ⟨⟨⟨⟨⟨⟨rfl, h1⟩, h2⟩, h3⟩, h4⟩, h5⟩, h6⟩ := h
      have e2 := star_cons (es := []) (env := X.env) h4
      have e1 := star_cons (es := [z]) (env := X.env) h3
      exact vi_weak (vi_r2 (V.gl h2) (V.free _ h1) (soundE a1 V h5) (soundE b1 V h6) e1 e2 (by rw [e1, e2]; rfl) e2)
    · cases h
end
end
end Ps
end

section
set_option Elab.async false
set_option linter.all false
set_option maxRecDepth 100000
set_option maxHeartbeats 4000000
/-! PvSs: statements: the check and its soundness. -/
namespace Ps
open PySem PySem.Spec PyProof.Rows L2
open Pv (D SV Hd Stp Cxt Res Out)

def appS : Str := "append"
/-- a list comprehension whose value goes straight to a local name of the same line -/
def swT (k : Ck) (x : Str) (p : Pos) : Expr → Bool
  | .ListComp _ _ scope ap => (match k.sc.kind with | .function => true | _ => false) && decide (k.sc.names.lookup x = some .local) && (p.line == ap.line) && !(scope.names.any fun (n, kd) => n == x && (kd == .local || kd == .cell))
  | _ => false
def isAddSub : Pv.BOp → Bool
  | .add => true
  | .sub => true
  | _ => false
mutual
def okS (T : Tab) : Ck → Pv.S → Stmt → Bool
  | k, .asg (.nm i) e, s => (match s with | .Assign [.Name x p] a _ => nmB k i x && okE T k e a && (notComp a || swT k x p a) | _ => false)
  | k, .asg (.tp is) e, s => (match s with | .Assign [.Tuple es _ _] a _ => okNs k is es && okE T k e a && notComp a && notTup a | _ => false)
  | k, .asg (.tp2 is) e, s => (match s with | .Assign [.Tuple es _ _] a _ => okNss k is es && okE T k e a && notComp a && notTup a | _ => false)
  | k, .par [i, j] es, s => (match s with
    | .Assign [.Tuple [.Name x px, .Name y py] _ _] (.Tuple [a, b] _ _) _ => nmB k i x && nmB k j y && decide (i ≠ j) && decide (k.sc.names.lookup x = some .local) && decide (k.sc.names.lookup y = some .local) && okEs T k es [a, b] &&
        (match k.sc.kind with | .function => true | _ => false) && (py.line == px.line) && !(x == y) && !([a, b].all (foldedForSure 8)) && !([a, b].all (constantsAlone 8))
    | _ => false)
  | k, .mov i j, s => (match s with | .Assign [.Name x _] (.Name y _) _ => nmB k i x && decide (k.N[j]? = some y) && visB k.sc y && plainN y | _ => false)
  | k, .aug i o e, s => (match s with | .AugAssign (.Name x _) op a _ => nmB k i x && decide (op = bop o) && isAddSub o && okE T k e a | _ => false)
  | k, .sIx a b e, s => (match s with | .Assign [.Subscript x y _] z _ => okE T k e z && okE T k a x && okE T k b y && stOk a b && plainIx y && notComp z | _ => false)
  | k, .exp e, s => (match s with | .Expr a _ => okE T k e a && notComp a | _ => false)
  | k, .app a e, s => (match s with | .Expr (.Call (.Attribute x m p1) [y] [] p2) _ => decide (m = appS) && okE T k a x && okE T k e y && notStar y && stOk a e && notCall x && (p1.endLine == p2.line) | _ => false)
  | k, .iff c a b, s => (match s with | .If z x y _ => okT T k c z && okSs T k a x && okSs T k b y | _ => false)
  | k, .whl c b, s => (match s with | .While z x [] _ => okT T k c z && okSs T k b x | _ => false)
  | k, .for_ t it b, s => (match s with | .For tg iter x [] _ => okTg k t tg && okIt T k it iter && notSet iter && okSs T k b x | _ => false)
  | k, .ret e, s => (match s with | .Return (some a) _ => okE T k e a | _ => false)
  | k, .retM i, s => (match s with | .Return (some (.Name x _)) _ => decide (k.N[i]? = some x) && visB k.sc x && plainN x | _ => false)
  | _, .retN, s => (match s with | .Return none _ => true | _ => false)
  | _, .brk, s => (match s with | .Break _ => true | _ => false)
  | _, .cnt, s => (match s with | .Continue _ => true | _ => false)
  | _, .pass, s => (match s with | .Pass _ => true | _ => false)
  | _, .stk, _ => true
  | _, _, _ => false
def okSs (T : Tab) : Ck → Pv.Ss → List Stmt → Bool
  | _, .nil, s => (match s with | [] => true | _ => false)
  | k, .cons s ss, l => (match l with | x :: xs => okS T k s x && okSs T k ss xs | _ => false)
end

/-! ### side conditions -/
theorem sw_no {e : Expr} {t : Option Expr} {l : Nat} {env : Env} (h : notComp e = true) : swapsWith e t l env = pure false := by
  cases e <;> first | rfl | cases h
theorem sw_sole {e t : Expr} {l : Nat} {env : Env} (h : notComp e = true) : swapsWithSole [t] e l env = pure false := by
  unfold swapsWithSole
  exact sw_no h
theorem sw_par {x y : Str} {px py pt pt2 : Pos} {kt k2 : Nat} {a b : Expr} {env : Env} (hk : env.scope.kind = .function) (hx : env.scope.names.lookup x = some .local) (hy : env.scope.names.lookup y = some .local) (hl : (py.line == px.line) = true) (hne : (x == y) = false) (ha : notStar a = true) (hb : notStar b = true)
    (h1 : [a, b].all (foldedForSure 8) = false) (h2 : [a, b].all (constantsAlone 8) = false) : swappedStores [.Tuple [.Name x px, .Name y py] kt pt] (.Tuple [a, b] k2 pt2) env = pure (some [x, y]) := by
  have kx : env.kindOf x = some .local := hx
  have ky : env.kindOf y = some .local := hy
  have hbk : env.blockKind = .function := by unfold Env.blockKind; rw [hk]; rfl
  have hl' : py.line = px.line := beq_iff_eq.mp hl
  have ne : x ≠ y := by simpa using hne
  unfold swappedStores
  simp only [hbk, kx, ky, Expr.pos, hl', h1, h2, List.filterMap_cons, List.filterMap_nil, List.any_cons, List.any_nil, List.head?_cons, Option.map_some, Option.getD_some]
  simp [List.eraseDups_cons, ne, Ne.symm ne, List.filter]
  have hyx : (y == x) = false := by simpa using Ne.symm ne
  rw [if_neg (by
    rintro (h | h)
    · cases a <;> first | exact absurd h Bool.false_ne_true | cases ha
    · cases b <;> first | exact absurd h Bool.false_ne_true | cases hb), hyx]
  rfl

section
variable {X : Cx} {W : WE} {rf : List Bool}
theorem set_read {K : PySem.W.Frag} {i : Nat} {f : Pv.St → Res Hd} {q : Bool} {D : Ends} {σ : L2.St} {H : Hp} (hr : nrf rf i = true) (h : tS K W rf (fAsg (.nm i) f) D σ H) : tOf K W f q σ H fun v H1 => D.nx (σ.set i (some v)) H1 := by
  obtain ⟨Z, fp, S, R, e⟩ := h
  refine ⟨Z, fp, S, R, sEnd.bind e fun hx S1 e1 v H1 Z1 fp1 F1 R1 d1 s1 x1 nf1 e2 => ?_⟩
  have d1 : HdD K Z1 fp1 σ H1 v hx F1 := d1
  by_cases hf : ∃ o, hx = .fr o
  · obtain ⟨o, rfl⟩ := hf
    obtain ⟨dS, own⟩ := d1.frOf
    obtain ⟨fp2, R2, h2⟩ := R1.put (i := i) dS fun a g => ⟨(own a g).1, fun j _ => (own a g).2 j⟩
    refine e2 _ H1 Z1 fp2 R2 ⟨s1.mono, s1.newz, fun j a g => ?_, s1.keep, s1.there⟩ (Kp.set hr)
    exact (h2 j a g).elim (s1.newf j a) (nf1 a)
  · obtain ⟨Z2, fp2, S2, d, S3, R2, dd, ea, go⟩ := asg_data R1 d1 s1 nf1 (fun ⟨_, o, _, z⟩ => hf ⟨o, z⟩) e2
    simp only [Pv.asgD, Option.some.injEq] at ea
    subst ea
    obtain ⟨fp3, R3, h3⟩ := R2.putD (i := i) dd
    exact go _ fp3 R3 h3 (Kp.set hr)
theorem vs_setLc {tg iter el : Expr} {ifs : List Expr} {scope : Scope} {k : Ck} {own : List Nat} {t : Pv.Tg} {fi : Pv.St → Res (List D)} {ft : Pv.St → Res Bool} {f : Pv.St → Res Hd} {q qa qb : Bool} {pos py spos : Pos} {i : Nat} {x : Str} (hc : X.calm = true) (hN : X.N = k.N) (n : Nm X rf i x)
    (hl : X.env.scope.names.lookup x = some .local) (hsw : swapsWith (.ListComp el [⟨tg, iter, ifs, 0⟩] scope pos) (some (.Name x py)) spos.line X.env = pure true) (P : LcP X W tg iter el ifs scope k own t fi ft f q qa qb) :
    VS X W rf (.Assign [.Name x py] (.ListComp el [⟨tg, iter, ifs, 0⟩] scope pos) spos) (fAsg (.nm i) (fLc own t fi ft f)) := by
  refine ⟨fun pins s σ H D I h => ?_⟩
  refine (ps_setLc (te := tOf X.K W0 f qa) (tt := tGen X.K W0 ddB ft qb) hc n.hN n.hi hl hsw P.hi P.ok P.hg P.ht P.he P.hs).run pins s σ H D I ?_
  rw [own_snd]
  exact lc_read (fun i h1 h2 => rfBlk_ok h1 h2) (by rw [← hN]; exact I.len) (set_read n.nr h)
end
section
variable {T : Tab} {C : Cxt} {xc : Pv.Exc → Value}
theorem lc_parts {e : Pv.E} {t : Pv.Tg} {it : Pv.It} {c : Pv.To} {own : List Nat} {k : Ck} {el : Expr} {gs : List Comprehension} {scope : Scope} {p : Pos} {X : Cx} {W : WE} (V : EO T C xc X W k) (h : okE T k (.lc e t it c own) (.ListComp el gs scope p) = true) :
    ∃ tg iter ifs, gs = [⟨tg, iter, ifs, 0⟩] ∧ LcP X W tg iter el ifs scope k own t (fun S => Pv.evI C it S) (fun S => Pv.tstO C c S) (fun S => Pv.ev C e S) false (Pv.qt e) false := by
  simp only [okE, nrm] at h
  split at h
  · rename_i el' tg iter ifs scope' p' he
    cases he
    simp only [Bool.and_eq_true] at h
    obtain ⟨⟨⟨⟨⟨h1, h2⟩, h3⟩, h4⟩, h5⟩, h6⟩ := h
    exact ⟨tg, iter, ifs, rfl, soundI it V h1, by rw [V.hN, V.sc]; exact blkOk_by h6, fun s H C' cl fp => pg_tg (V.blk s H scope C' cl fp own) h3, fun s H C' cl fp => soundTo c (V.blk s H scope C' cl fp own) h4, fun s H C' cl fp => soundE e (V.blk s H scope C' cl fp own) h5, fold_ok h2⟩
  · cases h
theorem att_base {a : Expr} {m : Str} {env : Env} (h : notCall a = true) : attributeBase a m env (eval a env) = eval a env := by
  cases a <;> first | rfl | cases h
theorem asg_sub {a b : Expr} {p : Pos} {env : Env} (h : plainIx b = true) (v : Value) : assign (.Subscript a b p) env v = (do
      let ov ← holding [v] (eval a env)
      let iv ← holding [v, ov] (eval b env)
      standAt p
      holding [v, ov, iv] (setItem ov iv v)
      release [v, ov, iv] []) := by
  cases b <;> first | rfl | cases h
mutual
theorem soundSt : ∀ (s : Pv.S) {k : Ck} {st : Stmt} {X : Cx} {W : WE}, EO T C xc X W k → PassesOwn (model X.prog X.w) X.A X.env X.xe → okS T k s st = true → VS X W k.rf st (fun S => Pv.ex C s S)
  | .asg (.nm i) e, k, st, X, W, V, hp, h => by
    simp only [okS] at h
    split at h
    · rename_i x p a pos
      simp only [Bool.and_eq_true, Bool.or_eq_true] at h
      obtain ⟨⟨h1, h2⟩, h3⟩ := h
      rcases h3 with h3 | h3
      · exact vs_set (V.nm h1) (soundE e V h2) (sw_no h3)
      · unfold swT at h3
        split at h3
        · rename_i el gs scope ap
          simp only [Bool.and_eq_true, decide_eq_true_eq, Bool.not_eq_true'] at h3
          obtain ⟨⟨⟨k1, k2⟩, k3⟩, k4⟩ := h3
          have k1 : k.sc.kind = .function := by
            split at k1
            · assumption
            · cases k1
          have hl : X.env.scope.names.lookup x = some .local := by rw [V.sc]; exact k2
          have hk : X.env.scope.kind = .function := by rw [V.sc]; exact k1
          cases e
          case lc e t it c own =>
            obtain ⟨tg, iter, ifs, rfl, P⟩ := lc_parts V h2
            exact vs_setLc V.calm V.hN (V.nm h1) hl (sw_true hk hl k3 k4) P
          case stk => exact vs_stk
          all_goals exact absurd h2 (by simp [okE, nrm])
        · cases h3
    · cases h
  | .asg (.tp is) e, k, st, X, W, V, hp, h => by
    simp only [okS] at h
    split at h
    · rename_i es j p a pos
      simp only [Bool.and_eq_true] at h
      obtain ⟨⟨⟨h1, h2⟩, h3⟩, h4⟩ := h
      obtain ⟨g, g1, g2, g3⟩ := pgs_names V h1
      exact vs_asg (t := .tp is) (fun _ => nofun) (soundE e V h2) (vg_tp V.calm g g1 g2 g3) (sw_sole h3) (by cases a <;> first | rfl | cases h4) rfl
    · cases h
  | .asg (.tp2 is) e, k, st, X, W, V, hp, h => by
    simp only [okS] at h
    split at h
    · rename_i es j p a pos
      simp only [Bool.and_eq_true] at h
      obtain ⟨⟨⟨h1, h2⟩, h3⟩, h4⟩ := h
      obtain ⟨g, g1, g2, g3⟩ := pgs_names2 V h1
      exact vs_asg (t := .tp2 is) (fun _ => nofun) (soundE e V h2) (vg_tp2 V.calm g g1 g2 g3) (sw_sole h3) (by cases a <;> first | rfl | cases h4) rfl
    · cases h
  | .par is es, k, st, X, W, V, hp, h => by
    match is, h with
    | [i, j], h =>
      simp only [okS] at h
      split at h
      · rename_i x px y py kt pt a b k2 pt2 pos _
        simp only [Bool.and_eq_true, decide_eq_true_eq, Bool.not_eq_true'] at h
        obtain ⟨⟨⟨⟨⟨⟨⟨⟨⟨⟨h1, h2⟩, h3⟩, h4⟩, h5⟩, h6⟩, h7⟩, h8⟩, h9⟩, h10⟩, h11⟩ := h
        have hk : X.env.scope.kind = .function := by
          rw [V.sc]
          split at h7
          · assumption
          · cases h7
        have hx : X.env.scope.names.lookup x = some .local := by rw [V.sc]; exact h4
        have hy : X.env.scope.names.lookup y = some .local := by rw [V.sc]; exact h5
        have sab : notStar a = true ∧ notStar b = true := by
          cases es with
          | nil => simp [okEs] at h6
          | cons e es =>
            simp only [okEs, Bool.and_eq_true] at h6
            refine ⟨h6.1.1.2, ?_⟩
            have h6 := h6.2
            cases es with
            | nil => simp [okEs] at h6
            | cons e es =>
              simp only [okEs, Bool.and_eq_true] at h6
              exact h6.1.1.2
        exact vs_par V.calm (V.nm h1) (V.nm h2) h3 hx hy (soundS es V h6) (sw_par hk hx hy h8 h9 sab.1 sab.2 h10 h11) rfl
      · cases h
    | [], h => simp [okS] at h
    | [_], h => simp [okS] at h
    | _ :: _ :: _ :: _, h => simp [okS] at h
  | .mov i j, k, st, X, W, V, hp, h => by
    simp only [okS] at h
    split at h
    · rename_i x p y p2 pos
      simp only [Bool.and_eq_true, decide_eq_true_eq] at h
      obtain ⟨⟨⟨h1, h2⟩, h3⟩, h4⟩ := h
      obtain ⟨d1, d2⟩ := plain_dbg h4
      exact vs_mov (V.nm h1) (pe_var (by rw [V.hN]; exact h2) (V.vis h3) d1 d2) (sw_no rfl)
    · cases h
  | .aug i o e, k, st, X, W, V, hp, h => by
    simp only [okS] at h
    split at h
    · rename_i x p op a pos
      simp only [Bool.and_eq_true, decide_eq_true_eq] at h
      obtain ⟨⟨⟨h1, rfl⟩, h3⟩, h4⟩ := h
      refine vs_aug (V.nm h1) ?_ (soundE e V h4)
      cases o <;> first | exact .inl rfl | exact .inr rfl | cases h3
    · cases h
  | .sIx a b e, k, st, X, W, V, hp, h => by
    simp only [okS] at h
    split at h
    · rename_i x y p z pos
      simp only [Bool.and_eq_true] at h
      obtain ⟨⟨⟨⟨⟨h1, h2⟩, h3⟩, h4⟩, h5⟩, h6⟩ := h
      exact vs_sIx (soundE e V h1) (soundE a V h2) (soundE b V h3) (st_of C h4) (sw_sole h6) rfl rfl (asg_sub h5)
    · cases h
  | .sAt a f e, k, st, X, W, V, hp, h => by simp [okS] at h
  | .augIx a b o e, k, st, X, W, V, hp, h => by simp [okS] at h
  | .augAt a f o e, k, st, X, W, V, hp, h => by simp [okS] at h
  | .exp e, k, st, X, W, V, hp, h => by
    simp only [okS] at h
    split at h
    · rename_i a pos
      simp only [Bool.and_eq_true] at h
      exact vs_exp (soundE e V h.1) (sw_no h.2)
    · cases h
  | .app a e, k, st, X, W, V, hp, h => by
    simp only [okS] at h
    split at h
    · rename_i x m p1 y p2 pos
      simp only [Bool.and_eq_true, decide_eq_true_eq] at h
      obtain ⟨⟨⟨⟨⟨⟨rfl, h1⟩, h2⟩, h3⟩, h4⟩, h5⟩, h6⟩ := h
      have hst := star_cons (es := []) (env := X.env) h3
      exact vs_app (soundE a V h1) (soundE e V h2) (st_of C h4) (att_base h5) (by rw [hst]; rfl) h6 hst (sw_no rfl)
    · cases h
  | .ext a e, k, st, X, W, V, hp, h => by simp [okS] at h
  | .ins a b e, k, st, X, W, V, hp, h => by simp [okS] at h
  | .iff c a b, k, st, X, W, V, hp, h => by
    simp only [okS] at h
    split at h
    · rename_i z x y pos
      simp only [Bool.and_eq_true] at h
      exact vs_if (soundT c V h.1.1).1 (soundSs a V hp h.1.2) (soundSs b V hp h.2)
    · cases h
  | .whl c b, k, st, X, W, V, hp, h => by
    simp only [okS] at h
    split at h
    · rename_i z x pos
      simp only [Bool.and_eq_true] at h
      exact vs_while hp (soundT c V h.1).1 (soundSs b V hp h.2)
    · cases h
  | .for_ t it b, k, st, X, W, V, hp, h => by
    simp only [okS] at h
    split at h
    · rename_i tg iter x pos
      simp only [Bool.and_eq_true] at h
      obtain ⟨⟨⟨h1, h2⟩, h3⟩, h4⟩ := h
      exact vs_for hp V.calm (soundI it V h2) (pg_tg V h1) (soundSs b V hp h4) (fold_ok h3)
    · cases h
  | .forO t e b, k, st, X, W, V, hp, h => by simp [okS] at h
  | .ret e, k, st, X, W, V, hp, h => by
    simp only [okS] at h
    split at h
    · rename_i a pos
      exact vs_ret (soundE e V h)
    · cases h
  | .retM i, k, st, X, W, V, hp, h => by
    simp only [okS] at h
    split at h
    · rename_i x p pos
      simp only [Bool.and_eq_true, decide_eq_true_eq] at h
      obtain ⟨⟨h1, h2⟩, h3⟩ := h
      obtain ⟨d1, d2⟩ := plain_dbg h3
      exact vs_retM (pe_var (by rw [V.hN]; exact h1) (V.vis h2) d1 d2)
    · cases h
  | .retN, k, st, X, W, V, hp, h => by
    simp only [okS] at h
    split at h
    · exact vs_retN
    · cases h
  | .brk, k, st, X, W, V, hp, h => by
    simp only [okS] at h
    split at h
    · exact vs_break
    · cases h
  | .cnt, k, st, X, W, V, hp, h => by
    simp only [okS] at h
    split at h
    · exact vs_continue
    · cases h
  | .pass, k, st, X, W, V, hp, h => by
    simp only [okS] at h
    split at h
    · exact vs_pass
    · cases h
  | .rais x, k, st, X, W, V, hp, h => by simp [okS] at h
  | .stk, k, st, X, W, V, hp, h => vs_stk
  | .tr b hs, k, st, X, W, V, hp, h => by simp [okS] at h
theorem soundSs : ∀ (s : Pv.Ss) {k : Ck} {st : List Stmt} {X : Cx} {W : WE}, EO T C xc X W k → PassesOwn (model X.prog X.w) X.A X.env X.xe → okSs T k s st = true → VSs X W k.rf st (fun S => Pv.exs C s S)
  | .nil, k, st, X, W, V, hp, h => by
    simp only [okSs] at h
    split at h
    · exact vss_nil
    · cases h
  | .cons s ss, k, st, X, W, V, hp, h => by
    simp only [okSs] at h
    split at h
    · rename_i x xs
      simp only [Bool.and_eq_true] at h
      exact vss_cons (soundSt s V hp h.1) (soundSs ss V hp h.2)
    · cases h
end
end
end Ps
end

section
set_option Elab.async false
set_option linter.all false
set_option maxRecDepth 100000
set_option maxHeartbeats 4000000
/-! PvF: a program's functions keep their promises. -/
namespace Ps
open PySem PySem.Spec PyProof.Rows L2
open Pv (D SV Hd Stp Cxt Res Out)

section
variable {K : PySem.W.Frag} {Z Z' : AS} {fp fp' : Nat → AS} {S S' : Pv.St} {σ σ' : L2.St} {H H' : Hp}
theorem sGet_pad {S : Pv.St} {m i : Nat} {o : SV} (h : Pv.sGet (S ++ List.replicate m none) i = some o) : Pv.sGet S i = some o := by
  rw [sGet_get] at h ⊢
  by_cases q : i < S.length
  · rw [List.getElem?_append_left q] at h; exact h
  · rw [List.getElem?_append_right (by omega), List.getElem?_replicate] at h
    split at h <;> cases h
theorem Rel.pad (R : Rel K Z fp S σ H) (m : Nat) : Rel K Z fp (S ++ List.replicate m none) (σ ++ List.replicate m none) H := by
  refine ⟨by simp [R.len], fun i o e => ?_, fun i e a f => ?_, R.apart, R.dis, R.trk⟩
  · obtain ⟨v, e1, d⟩ := R.slot i o (sGet_pad e)
    have hi : i < σ.length := by
      by_cases q : i < σ.length
      · exact q
      · rw [List.getElem?_eq_none (by omega)] at e1; cases e1
    exact ⟨v, by rw [List.getElem?_append_left hi]; exact e1, d⟩
  · cases q : Pv.sGet S i with
    | none => exact R.unset i q a f
    | some o =>
      have hi := sGet_lt q
      rw [sGet_get, List.getElem?_append_left hi, ← sGet_get, q] at e
      cases e
/-- the objects that were handed over, at the end -/
theorem outs_rel : ∀ {rf : List Bool} {S : Pv.St} {σ : L2.St} {vs : List V} {os : List SV} {fp : Nat → AS}, Pv.outsOf rf S = some os → rf.length ≤ vs.length → (∀ i o, Pv.sGet S i = some o → ∃ v, σ[i]? = some (some v) ∧ DenS K Z H v o (fp i)) → (∀ (i : Nat) v, rf[i]? = some true → vs[i]? = some v → σ[i]? = some (some v)) → OutsR K Z H rf vs os fp
  | [], S, σ, vs, os, fp, e, hl, hs, hk => by
    simp only [Pv.outsOf, Option.some.injEq] at e
    subst e
    exact .nil
  | true :: rf, [], σ, vs, os, fp, e, hl, hs, hk => by simp [Pv.outsOf] at e
  | true :: rf, none :: S, σ, vs, os, fp, e, hl, hs, hk => by simp [Pv.outsOf] at e
  | true :: rf, some o :: S, σ, vs, os, fp, e, hl, hs, hk => by
    simp only [Pv.outsOf] at e
    cases q : Pv.outsOf rf S with
    | none => rw [q] at e; cases e
    | some os' =>
      rw [q] at e
      simp only [Option.some.injEq] at e
      subst e
      cases vs with
      | nil => simp at hl
      | cons v vs =>
        obtain ⟨v', e1, d⟩ := hs 0 o rfl
        have e2 := hk 0 v rfl rfl
        rw [e1] at e2
        cases e2
        refine .out d (outs_rel (σ := σ.tail) q (by simpa using hl) (fun i o e => ?_) fun i v h1 h2 => ?_)
        · obtain ⟨w, e3, d3⟩ := hs (i + 1) o e
          refine ⟨w, ?_, d3⟩
          rw [List.getElem?_tail]; exact e3
        · rw [List.getElem?_tail]; exact hk (i + 1) v h1 h2
  | false :: rf, [], σ, vs, os, fp, e, hl, hs, hk => by simp [Pv.outsOf] at e
  | false :: rf, o :: S, σ, vs, os, fp, e, hl, hs, hk => by
    simp only [Pv.outsOf] at e
    cases vs with
    | nil => simp at hl
    | cons v vs =>
      refine .skip (outs_rel (S := S) (σ := σ.tail) e (by simpa using hl) (fun i o e => ?_) fun i v h1 h2 => ?_)
      · obtain ⟨w, e3, d3⟩ := hs (i + 1) o e
        refine ⟨w, ?_, d3⟩
        rw [List.getElem?_tail]; exact e3
      · rw [List.getElem?_tail]; exact hk (i + 1) v h1 h2
theorem fin_end {xc : Pv.Exc → Value} {rf : List Bool} {r : Res Pv.Flow} {vs : List V} {σ0 : L2.St} {Q : VK} {E : XK} (hl : rf.length ≤ vs.length) (h0 : ∀ (i : Nat) v, rf[i]? = some true → vs[i]? = some v → σ0[i]? = some (some v)) (e : fEnd K xc rf (Pv.fin rf r) Z fp vs H Q E) :
    sEnd K (fun x _ H => E (xc x) none H) rf r Z fp σ0 H { nx := fun _ H' => Q .non H', rt := Q } := by
  have outs : ∀ {S' : Pv.St} {os : List SV} {σ' : L2.St} {H' : Hp} {Z' : AS} {fp' : Nat → AS}, Pv.outsOf rf S' = some os → Rel K Z' fp' S' σ' H' → Kp rf σ0 σ' → OutsR K Z' H' rf vs os fp' := fun q R' k' =>
    outs_rel q hl R'.slot fun i v h1 h2 => by rw [k' i h1]; exact h0 i v h1 h2
  match r, e with
  | some (.ok .next S'), e =>
    intro σ' H' Z' fp' R' s' k'
    simp only [Pv.fin] at e
    cases q : Pv.outsOf rf S' with
    | none => rw [q] at e; exact e.elim
    | some os =>
      rw [q] at e
      exact e .non H' Z' fp' AS.no s' R'.fr (outs q R' k') (.val .non) (fun _ z => z.elim) no_new
  | some (.ok (.ret o) S'), e =>
    intro v σ' H' Z' fp' F R' s' k' d n nf
    simp only [Pv.fin] at e
    cases q : Pv.outsOf rf S' with
    | none => rw [q] at e; exact e.elim
    | some os =>
      rw [q] at e
      exact e v H' Z' fp' F s' R'.fr (outs q R' k') d n nf
  | some (.exc x S'), e =>
    intro σ' H' Z' fp' R' s' k'
    simp only [Pv.fin] at e
    cases q : Pv.outsOf rf S' with
    | none => rw [q] at e; exact e.elim
    | some os =>
      rw [q] at e
      exact e H' Z' fp' s' R'.fr (outs q R' k')
end

/-- what is known of a function of the text -/
structure FnI (K : PySem.W.Frag) (mg : Str → Option Value) (T : Tab) (prog : Pv.Prog) (g : Nat) (x : Str) (np : Nat) : Prop where
  get : ∃ (F : Pv.F) (f : Addr) (fd : FuncData) (y qual : Str) (params : Arguments) (body : List Stmt) (scope : Scope) (N : List Str), prog.fs[g]? = some F ∧ F.np = np ∧ mg x = some (.ref f) ∧ FunD K y qual params body scope [] [] f fd ∧ FnScope N (T.pss.getD g []) scope ∧
    N.length = F.ns ∧ (T.pss.getD g []).length = F.np ∧ F.rf.length ≤ F.np ∧ okSs T ⟨N, scope, F.rf, fun _ => true⟩ F.body body = true ∧ Binds K fd (T.pss.getD g []) [] ∧ ∀ (s : Shared) (us : List Value), us.length = (T.pss.getD g []).length → BindsTo s fd ⟨us, []⟩ ((T.pss.getD g []).zip us)
/-- what is known of the text -/
structure TxI (K : PySem.W.Frag) (mg : Str → Option Value) (T : Tab) (prog : Pv.Prog) : Prop where
  fns : ∀ g x np, T.fns[g]? = some (x, np) → FnI K mg T prog g x np
  glb : ∀ x d, T.glbs.lookup x = some d → ∃ v u, mg x = some u ∧ RelV v u ∧ ∀ Z H, Den K Z H v d
  free : ∀ x, x ∈ T.free → mg x = none
  mods : ∀ x id, (x, id) ∈ T.mods → mg x = some (.builtin id)

section
variable {P : Program} {w : World} {K : PySem.W.Frag} {mg : Str → Option Value} {base : Heap} {T : Tab} {prog : Pv.Prog} {xc : Pv.Exc → Value}
theorem FunD.lk {x qual : Str} {params : Arguments} {body : List Stmt} {scope : Scope} {f : Addr} {fd : FuncData} (F : FunD K x qual params body scope [] [] f fd) : ∃ oc od osl, K.lookup f = some ⟨oc, od, .func fd, osl⟩ := by
  obtain ⟨oc, od, dV, kV, doc, pm, an, cdv, ct, osl, _, lk, _⟩ := F.ex
  exact ⟨oc, od, osl, lk⟩
/-- the functions keep their promises, n deep -/
def AllOk (P : Program) (w : World) (K : PySem.W.Frag) (mg : Str → Option Value) (base : Heap) (T : Tab) (prog : Pv.Prog) (xc : Pv.Exc → Value) (n : Nat) : Prop :=
  ∀ g x np, T.fns[g]? = some (x, np) → ∃ (f : Addr) (fd : FuncData), (∃ oc od osl, K.lookup f = some ⟨oc, od, .func fd, osl⟩) ∧ FnOk P w K mg base (L2.CX P w) n f fd (T.pss.getD g []) (spOf K xc np (prog.rfs g) (Pv.callN prog n g)) ∧ mg x = some (.ref f) ∧ PySem.W.keepIn K (.ref f) = true ∧ Binds K fd (T.pss.getD g []) [] ∧ (∀ vs, Pv.callN prog n g vs ≠ none → vs.length = np) ∧ ∀ (s : Shared) (us : List Value), us.length = (T.pss.getD g []).length → BindsTo s fd ⟨us, []⟩ ((T.pss.getD g []).zip us)
theorem all_zero (I : TxI K mg T prog) : AllOk P w K mg base T prog xc 0 := fun g x np h => by
  obtain ⟨F, f, fd, y, qual, params, body, scope, N, hF, hnp, hm, FD, S, hN, hps, hrf, hck, hb, hbs⟩ := (I.fns g x np h).get
  refine ⟨f, fd, (FunD.lk FD), ⟨fun vs H Q E hsp => by rw [hps, hnp]; exact hsp.1, fun A outer s H args us vs Q E _ _ _ _ hsp => ?_⟩, hm, FD.kp, hb, fun vs z => absurd rfl z, hbs⟩
  obtain ⟨_, _, _, _, _, e⟩ := hsp
  exact e.elim
theorem all_succ {n : Nat} (I : TxI K mg T prog) (ih : AllOk P w K mg base T prog xc n) : AllOk P w K mg base T prog xc (n + 1) := fun g x np h => by
  obtain ⟨F, f, fd, y, qual, params, body, scope, N, hF, hnp, hm, FD, S, hN, hps, hrf, hck, hb, hbs⟩ := (I.fns g x np h).get
  have hrfs : prog.rfs g = F.rf := by unfold Pv.Prog.rfs; rw [hF]
  have hcall : ∀ vs, Pv.callN prog (n + 1) g vs = Pv.runF ⟨Pv.callN prog n, prog.rfs, prog.sub⟩ F vs := fun vs => by simp only [Pv.callN, hF]
  refine ⟨f, fd, (FunD.lk FD), FD.ok S (fun vs H Q E hsp => by rw [hps, hnp]; exact hsp.1) fun cdv A outer s H vs Q E hr hsp => ?_, hm, FD.kp, hb, fun vs z => ?_, hbs⟩
  · obtain ⟨hl, Z, fp, ss, R, e⟩ := hsp
    refine ⟨tS K (fun x _ H => E (xc x) none H) F.rf fun S => Pv.exs ⟨Pv.callN prog n, prog.rfs, prog.sub⟩ F.body S, ?_, ?_⟩
    · refine soundSs (T := T) (xc := xc) (k := ⟨N, scope, F.rf, fun _ => true⟩) F.body ⟨rfl, S.nd, rfl, rfl, fun _ _ => .inl rfl, ⟨n, hr, fun g' x' np' h' => ?_⟩, ?_, I.glb, I.free, I.mods⟩ (passes_of rfl) hck
      · obtain ⟨f', fd', _, F', hm', hk', hb', hn', _⟩ := ih g' x' np' h'
        exact ⟨⟨f', fd', _, F', hm', hk', hb'⟩, hn'⟩
      · exact Takes.imp (takes_of (E := E) rfl rfl rfl rfl) fun c d σ H' ⟨x, h1, h2, h3⟩ => by rw [h1, h2]; exact h3
    · have hss : ss.length = F.np := by
        have := R.len
        rw [List.length_map, List.length_map] at this
        omega
      rw [hcall, hrfs] at e
      unfold Pv.runF at e
      rw [if_pos hss] at e
      have hst : L2.start N vs = vs.map some ++ List.replicate (F.ns - F.np) none := by
        unfold L2.start
        rw [hN, hl, hnp]
      refine ⟨Z, fp, _, by rw [hst]; exact R.pad (F.ns - F.np), fin_end (by rw [hl, ← hnp]; exact hrf) (fun i v h1 h2 => ?_) e⟩
      rw [hst]
      have hi : i < vs.length := by
        by_cases q : i < vs.length
        · exact q
        · rw [List.getElem?_eq_none (by omega)] at h2; cases h2
      rw [List.getElem?_append_left (by simpa using hi), List.getElem?_map, h2]
      rfl
  · rw [hcall] at z
    unfold Pv.runF at z
    by_cases q : vs.length = F.np
    · rw [q, hnp]
    · rw [if_neg q] at z; exact absurd rfl z
theorem all_ok (I : TxI K mg T prog) : ∀ n, AllOk P w K mg base T prog xc n
  | 0 => all_zero I
  | n + 1 => all_succ I (all_ok I n)
theorem ints_den {Z : AS} {H : Hp} : ∀ ns : List Int, DenL K Z H (ns.map V.int) (ns.map D.int)
  | [] => .nil
  | n :: ns => .cons (.int n) (ints_den ns)
/-- the law's own promise -/
theorem law_ok {n g : Nat} {ns : List Int} (hv : ∃ outs, Pv.callN prog n g [.val (.lst (ns.map D.int))] = some (.ok (.val (.bl true)) outs)) {H : Hp} {a : Addr} (hS : SqL K H a (ns.map V.int)) :
    spOf K xc 1 (prog.rfs g) (Pv.callN prog n g) [.ref a] H (fun v _ => v = .bl true) fun _ _ _ => False := by
  obtain ⟨outs, hv⟩ := hv
  refine ⟨rfl, ?_⟩
  have go : ∀ Z : AS, (∀ b, Z b → ∃ o, H b = some o) → Den K Z H (.ref a) (.lst (ns.map D.int)) → ∃ (Z : AS) (fp : Nat → AS) (ss : List SV), Rel K Z fp (ss.map some) ([V.ref a].map some) H ∧ fEnd K xc (prog.rfs g) (Pv.callN prog n g ss) Z fp [V.ref a] H (fun v _ => v = .bl true) fun _ _ _ => False := fun Z tz d => by
    refine ⟨Z, _, [.val (.lst (ns.map D.int))], Rel.cons (Rel.nil tz) (.val d) (fun _ z => z.elim) (fun _ z => z.elim), ?_⟩
    rw [hv]
    intro v H' Z' fp' F _ _ _ dv _ _
    exact dv.valOf.1.blOf
  rcases hS with h1 | h1
  · exact go (fun b => b = a) (fun b e => by subst e; exact h1.elim (fun e => ⟨_, e⟩) fun ⟨o, e⟩ => ⟨_, e⟩) (.lst h1 rfl (ints_den ns))
  · exact go AS.no (fun _ z => z.elim) (.lstK h1 (ints_den ns))
end
end Ps
end

section
set_option Elab.async false
set_option linter.all false
set_option maxRecDepth 100000
set_option maxHeartbeats 4000000
/-! PvH: from the head's facts to the functions' promises. -/
namespace Ps
open PySem PySem.Spec PyProof.Rows L2
open Pv (D SV Hd Stp Cxt Res Out)

/-! ### constants of the module -/
mutual
def denB (K : PySem.W.Frag) : D → Value → Bool
  | .non, u => (match u with | .none => true | _ => false)
  | .bl b, u => (match u with | .bool c => b == c | _ => false)
  | .int i, u => (match u with | .int j _ => decide (i = j) | _ => false)
  | .str s, u => (match u with | .str x _ => decide (tx s = x) | _ => false)
  | .tup ds, u => (match u with | .ref a => (match K.lookup a with | some ⟨.type c, _, .seq its _, _⟩ => decide (c = "tuple") && decide (its.size ≤ sizeLine) && denBL K ds its.toList | _ => false) | _ => false)
  | .lst ds, u => (match u with | .ref a => (match K.lookup a with | some ⟨.type c, none, .seq its _, _⟩ => decide (c = "list") && decide (its.size ≤ sizeLine) && denBL K ds its.toList | _ => false) | _ => false)
  | _, _ => false
def denBL (K : PySem.W.Frag) : List D → List Value → Bool
  | [], us => (match us with | [] => true | _ => false)
  | d :: ds, us => (match us with | u :: us => denB K d u && denBL K ds us | _ => false)
end
mutual
theorem denB_ok {K : PySem.W.Frag} : ∀ {d : D} {u : Value}, denB K d u = true → ∃ v, RelV v u ∧ ∀ Z H, Den K Z H v d
  | .non, u, h => by
    simp only [denB] at h
    split at h
    · exact ⟨.non, rfl, fun _ _ => .non⟩
    · cases h
  | .bl b, u, h => by
    simp only [denB] at h
    split at h
    · obtain rfl := beq_iff_eq.mp h; exact ⟨.bl b, rfl, fun _ _ => .bl b⟩
    · cases h
  | .int i, u, h => by
    simp only [denB] at h
    split at h
    · obtain rfl := of_decide_eq_true h; exact ⟨.int i, ⟨_, rfl⟩, fun _ _ => .int i⟩
    · cases h
  | .str s, u, h => by
    simp only [denB] at h
    split at h
    · obtain rfl := of_decide_eq_true h; exact ⟨.str (tx s), ⟨_, rfl⟩, fun _ _ => .str s⟩
    · cases h
  | .tup ds, u, h => by
    simp only [denB] at h
    split at h
    · rename_i a
      split at h
      · rename_i c dd its n sl hk
        simp only [Bool.and_eq_true, decide_eq_true_eq] at h
        obtain ⟨⟨rfl, h2⟩, h3⟩ := h
        obtain ⟨vs, r, dl⟩ := denBL_ok h3
        exact ⟨.ref a, rfl, fun Z H => .tupK ⟨_, its, n, hk, rfl, rfl, h2, r⟩ (dl Z H)⟩
      · cases h
    · cases h
  | .lst ds, u, h => by
    simp only [denB] at h
    split at h
    · rename_i a
      split at h
      · rename_i c its n sl hk
        simp only [Bool.and_eq_true, decide_eq_true_eq] at h
        obtain ⟨⟨rfl, h2⟩, h3⟩ := h
        obtain ⟨vs, r, dl⟩ := denBL_ok h3
        exact ⟨.ref a, rfl, fun Z H => .lstK ⟨_, its, n, hk, rfl, rfl, rfl, h2, r⟩ (dl Z H)⟩
      · cases h
    · cases h
  | .dct _ _ _, u, h => by simp [denB] at h
  | .obj _ _ _, u, h => by simp [denB] at h
theorem denBL_ok {K : PySem.W.Frag} : ∀ {ds : List D} {us : List Value}, denBL K ds us = true → ∃ vs, Vals vs us ∧ ∀ Z H, DenL K Z H vs ds
  | [], us, h => by
    simp only [denBL] at h
    split at h
    · exact ⟨[], .nil, fun _ _ => .nil⟩
    · cases h
  | d :: ds, us, h => by
    simp only [denBL] at h
    split at h
    · simp only [Bool.and_eq_true] at h
      obtain ⟨v, r, dv⟩ := denB_ok h.1
      obtain ⟨vs, rs, dl⟩ := denBL_ok h.2
      exact ⟨v :: vs, .cons r rs, fun Z H => .cons (dv Z H) (dl Z H)⟩
    · cases h
end
/-- what the head must tell besides the functions -/
def exB (T : Tab) (K : PySem.W.Frag) : Bool :=
  (T.glbs.all fun p => match PySem.W.nsIn K mainGlobals p.1 with | some (some u) => denB K p.2 u | _ => false) &&
    (T.mods.all fun p => He.eqO (PySem.W.nsIn K mainGlobals p.1) (some (some (.builtin p.2))))
/-! ### the Hook -/
abbrev AlE : Type := He.AlD × Bool
def obsE (T : Tab) (fa : List He.Fa) (fn : List He.DefD) (K : PySem.W.Frag) : AlE := (He.obsD fa fn K, exB T K)
def SaysE (T : Tab) (fa : List He.Fa) (fn : List He.DefD) (K : PySem.W.Frag) : Prop := obsE T fa fn K = (He.valD fn, true)
def obsEG (n : Nat) (T : Tab) (fa : List He.Fa) (fn : List He.DefD) (g : Addr → Option Obj) : AlE := obsE T fa fn (He.frG g (He.asD g n))
def hookE (n : Nat) (T : Tab) (fa : List He.Fa) (fn : List He.DefD) : PySem.W.Hook where
  α := AlE
  obs := fun s => obsEG n T fa fn s.heap.get?
  val := fun _ => (He.valD fn, true)
  says := fun _ h => ∃ K : PySem.W.Frag, K.In h ∧ SaysE T fa fn K
  of := fun _ _ e => ⟨_, He.frG_in, e⟩
  keeps := fun _ _ _ ⟨K, hK, c⟩ k => ⟨K, PySem.W.Frag.In.keeps hK k, c⟩
theorem obsEG_eq {n : Nat} {T : Tab} {fa : List He.Fa} {fn : List He.DefD} {g : Addr → Option Obj} {s : Shared} (h : ∀ a, g a = s.heap.get? a) : obsEG n T fa fn g = (hookE n T fa fn).obs s := by
  have e : g = s.heap.get? := funext h
  rw [e] <;> rfl

/-! ### the text against its terms -/
def fnScB (N ps : List Str) (sc : Scope) : Bool :=
  (match sc.kind with | .function => true | _ => false) && !sc.isCoroutine && !sc.isGenerator && decide N.Nodup && decide (N.take ps.length = ps) &&
    (ps.all fun x => decide (sc.names.lookup x = some .local) || decide (sc.names.lookup x = some .cell)) && (sc.names.all fun y => match y.2 with | .free => false | _ => true)
theorem fnSc_ok {N ps : List Str} {sc : Scope} (h : fnScB N ps sc = true) : FnScope N ps sc := by
  unfold fnScB at h
  simp only [Bool.and_eq_true, Bool.not_eq_true', decide_eq_true_eq, List.all_eq_true, Bool.or_eq_true] at h
  obtain ⟨⟨⟨⟨⟨⟨h1, h2⟩, h3⟩, h4⟩, h5⟩, h6⟩, h7⟩ := h
  refine ⟨?_, h2, h3, h4, h5, h6, fun y hy e => ?_⟩
  · split at h1
    · assumption
    · cases h1
  · have := h7 y hy
    rw [e] at this
    cases this
def noDf (d : He.DefD) : Bool := d.dfl.isEmpty && d.kwd.isEmpty
def fnB (T : Tab) (F : Pv.F) (x : Str × Nat) (d : He.DefD) (N ps : List Str) : Bool :=
  decide (F.np = x.2) && decide (d.at_ = (x.1, none)) && noDf d && fnScB N ps d.scope && decide (N.length = F.ns) && decide (ps.length = F.np) && decide (F.rf.length ≤ F.np) && okSs T ⟨N, d.scope, F.rf, fun _ => true⟩ F.body d.body
def BindOk (d : He.DefD) (ps : List Str) : Prop := ∀ (kV doc pm : Value) (an : Option Addr) (cdv ct : Value) (us : List Value), us.length = ps.length → bindArgs (PySem.W.fnOf d.name d.qual d.params d.body d.scope .none kV doc pm an cdv ct) ⟨us, []⟩ = pure (ps.zip us)
/-- the functions, one by one -/
inductive FnsOk (T : Tab) : List Pv.F → List (Str × Nat) → List He.DefD → List (List Str) → Prop
  | nil : FnsOk T [] [] [] []
  | cons {F : Pv.F} {x : Str × Nat} {d : He.DefD} {ps : List Str} (N : List Str) {Fs : List Pv.F} {xs : List (Str × Nat)} {ds : List He.DefD} {pss : List (List Str)} : fnB T F x d N ps = true → BindOk d ps → FnsOk T Fs xs ds pss → FnsOk T (F :: Fs) (x :: xs) (d :: ds) (ps :: pss)
theorem FnsOk.at {T : Tab} : ∀ {Fs : List Pv.F} {xs : List (Str × Nat)} {ds : List He.DefD} {pss : List (List Str)} {g : Nat} {x : Str × Nat}, FnsOk T Fs xs ds pss → xs[g]? = some x → ∃ F d N, Fs[g]? = some F ∧ ds[g]? = some d ∧ fnB T F x d N (pss.getD g []) = true ∧ BindOk d (pss.getD g [])
  | _, _, _, _, g, x, .nil, e => by simp at e
  | _, _, _, _, 0, x, .cons N h b t, e => by
    simp only [List.getElem?_cons_zero, Option.some.injEq] at e
    subst e
    exact ⟨_, _, N, rfl, rfl, h, b⟩
  | _, _, _, _, g + 1, x, .cons N h b t, e => by
    obtain ⟨F, d, N', h1, h2, h3, h4⟩ := FnsOk.at t (by simpa using e)
    exact ⟨F, d, N', by simpa using h1, by simpa using h2, by simpa using h3, by simpa using h4⟩
def faOf (T : Tab) : List He.Fa := T.fns.map (fun p => .glo p.1) ++ T.free.map .free
theorem facts_ok {T : Tab} {fn : List He.DefD} {K : PySem.W.Frag} (c : SaysE T (faOf T) fn K) : (∀ f, f ∈ faOf T → f.ok K = true) ∧ (∀ (g : Nat) (d : He.DefD), fn[g]? = some d → ∃ fd, FunD K d.name d.qual d.params d.body d.scope (d.dvs K) (d.kws K) (He.fAd K d.at_) fd) ∧ exB T K = true := by
  have c1 : He.SaysD (faOf T) fn K := congrArg (fun z : AlE => z.1) c
  have c2 : exB T K = true := congrArg (fun z : AlE => z.2) c
  refine ⟨fun f hf => ?_, fun g d h => c1.def_ g h, c2⟩
  have c3 := (He.ba (show ((faOf T).all (fun f => f.ok K) && fn.all fun d => d.ok K) = true from congrArg (fun z : He.AlD => z.1) c1)).1
  exact List.all_eq_true.mp c3 f hf
theorem txI_of {K : PySem.W.Frag} {h : Heap} {mg : Str → Option Value} {T : Tab} {prog : Pv.Prog} {fn : List He.DefD} (X : K.In h) (G : h.Ns mainGlobals mg) (c : SaysE T (faOf T) fn K) (hF : FnsOk T prog.fs T.fns fn T.pss) : TxI K mg T prog := by
  obtain ⟨f1, f2, f3⟩ := facts_ok c
  unfold exB at f3
  rw [Bool.and_eq_true] at f3
  obtain ⟨e1, e2⟩ := f3
  have mem : ∀ {l : List (Str × D)} {x : Str} {d : D}, l.lookup x = some d → (x, d) ∈ l := by
    intro l
    induction l with
    | nil => intro x d h; cases h
    | cons p l ih =>
      intro x d h
      obtain ⟨y, e⟩ := p
      rw [List.lookup_cons] at h
      split at h
      · rename_i hb
        obtain rfl := beq_iff_eq.mp hb
        cases h
        exact List.mem_cons_self
      · exact List.mem_cons_of_mem _ (ih h)
  refine ⟨fun g x np hx => ?_, fun x d hd => ?_, fun x hx => ?_, fun x id hx => ?_⟩
  · obtain ⟨F, d, N, h1, h2, h3, h4⟩ := hF.at hx
    unfold fnB at h3
    simp only [Bool.and_eq_true, decide_eq_true_eq] at h3
    obtain ⟨⟨⟨⟨⟨⟨⟨k1, k2⟩, k3⟩, k4⟩, k5⟩, k6⟩, k7⟩, k8⟩ := h3
    obtain ⟨fd, FD⟩ := f2 g d h2
    obtain ⟨at_, name, qual, params, body, scope, dfl, kwd⟩ := d
    unfold noDf at k3
    rw [Bool.and_eq_true] at k3
    have z1 : dfl = [] := List.isEmpty_iff.mp k3.1
    have z2 : kwd = [] := List.isEmpty_iff.mp k3.2
    subst z1 z2
    have k2 : at_ = (x, none) := k2
    subst k2
    have hm : mg x = some (.ref (He.ga K x)) := He.glo_ok X G (f1 _ (List.mem_append_left _ (List.mem_map.mpr ⟨(x, np), List.mem_of_getElem? hx, rfl⟩)))
    have FD : FunD K name qual params body scope [] [] (He.ga K x) fd := FD
    exact ⟨F, _, fd, name, qual, params, body, scope, N, h1, k1, hm, FD, fnSc_ok k4, k5, k6, k7, k8, FD.bindsN h4, fun s us hl => FD.bindsA h4 s us hl⟩
  · have := List.all_eq_true.mp e1 _ (mem hd)
    simp only at this
    split at this
    · rename_i u hu
      obtain ⟨v, r, dv⟩ := denB_ok this
      exact ⟨v, u, PySem.W.mg_of X G hu, r, dv⟩
    · cases this
  · exact He.free_ok X G (f1 _ (List.mem_append_right _ (List.mem_map.mpr ⟨x, hx, rfl⟩)))
  · exact PySem.W.mg_of X G (He.eqO_ok (List.all_eq_true.mp e2 _ hx))
/-- no exception comes out -/
def CXn : CXT := fun _ _ _ _ _ _ => False
theorem FnOk.noX {P : Program} {w : World} {K : PySem.W.Frag} {mg : Str → Option Value} {base : Heap} {k : Nat} {f : Addr} {fd : FuncData} {ps : List Str} {sp : Sp} (F : FnOk P w K mg base (L2.CX P w) k f fd ps sp) : FnOk P w K mg base CXn k f fd ps (fun vs H Q _ => sp vs H Q fun _ _ _ => False) := by
  refine ⟨fun vs H Q E h => F.len vs H Q _ h, fun A outer s H args us vs Q E hr he hb hv hs => codeAny_mono (F.run A outer s H args us vs Q _ hr he hb hv hs) fun r s' h => ?_⟩
  cases r with
  | error e =>
    obtain ⟨_, _, _, _, _, _, _, _, _, _, _, _, z⟩ := h
    exact z.elim
  | ok fl => cases fl <;> exact h
/-- the law's end -/
theorem end_ok {P : Program} {w : World} {K : PySem.W.Frag} {h : Heap} {mg : Str → Option Value} {T : Tab} {prog : Pv.Prog} {fn : List He.DefD} {fa : Addr} {g n : Nat} {x y : Str} (xc : Pv.Exc → Value) (X : K.In h) (G : h.Ns mainGlobals mg) (c : SaysE T (faOf T) fn K) (hF : FnsOk T prog.fs T.fns fn T.pss)
    (hx : T.fns[g]? = some (x, 1)) (hm : mg x = some (.ref fa)) (hy : T.pss.getD g [] = [y]) (hv : ∀ ns : List Int, ∃ outs, Pv.callN prog n g [.val (.lst (ns.map D.int))] = some (.ok (.val (.bl true)) outs)) :
    ∃ (fd : FuncData) (sp : Sp), (∀ (s : Shared) (v : Value), BindsTo s fd ⟨[v], []⟩ [(y, v)]) ∧ (∀ (H : Hp) (a : Addr) (ns : List Int), SqL K H a (ns.map V.int) → sp [.ref a] H (fun v _ => v = .bl true) fun _ _ _ => False) ∧ ∀ base : Heap, FnOk P w K mg base CXn n fa fd [y] sp := by
  have I := txI_of X G c hF
  obtain ⟨F, f, fd, y', qual, params, body, scope, N, h1, h2, h3, h4, h5, h6, h7, h8, h9, h10, h11⟩ := (I.fns g x 1 hx).get
  rw [hy] at h11
  rw [hm] at h3
  cases h3
  refine ⟨fd, fun vs H Q _ => spOf K xc 1 (prog.rfs g) (Pv.callN prog n g) vs H Q fun _ _ _ => False, fun s v => h11 s [v] rfl, fun H a ns hS => law_ok (hv ns) hS, fun base => ?_⟩
  obtain ⟨f', fd', ⟨oc, od, osl, lk'⟩, F', hm', _, _, _, _⟩ := all_ok (P := P) (w := w) (base := base) (xc := xc) I n g x 1 hx
  rw [hm] at hm'
  cases hm'
  obtain ⟨oc2, od2, osl2, lk⟩ := FunD.lk h4
  rw [lk] at lk'
  cases lk'
  rw [hy] at F'
  exact FnOk.noX F'
end Ps
end

section
set_option Elab.async false
set_option linter.all false
set_option maxRecDepth 100000
set_option maxHeartbeats 0
namespace K89H
open PySem PySem.Spec PyProof.Rows L2 Ps
def top (i : Nat) : Stmt := PySem.Challenge.pw_fontalike_k89_traces_and_leads.main.body.getD i (.Pass ⟨0, 0, 0, 0⟩)
def fns0 : List (Str × Nat) := ((.ofString "fraction", 2) :: (.ofString "plus", 2) :: (.ofString "minus", 2) :: (.ofString "order", 2) :: (.ofString "lesser", 2) :: (.ofString "whole", 1) :: (.ofString "moved_right", 2) :: (.ofString "least_of", 1) :: (.ofString "glyph_trace", 2) :: (.ofString "join_traces", 2) :: (.ofString "moved_back", 2) :: (.ofString "common_count", 2) :: (.ofString "lead", 2) :: (.ofString "_law_cell", 2) :: (.ofString "_law_stream", 1) :: (.ofString "_law_next", 2) :: (.ofString "_law_same", 2) :: (.ofString "_law_fraction", 2) :: (.ofString "_law_plus", 2) :: (.ofString "_law_minus", 2) :: (.ofString "_law_turn", 3) :: (.ofString "_law_box", 4) :: (.ofString "_law_triangle", 3) :: (.ofString "_law_shape", 2) :: (.ofString "_law_edges", 1) :: (.ofString "_law_border", 3) :: (.ofString "_law_least", 1) :: (.ofString "_law_mark", 1) :: (.ofString "_law_small", 1) :: (.ofString "_law_trace", 3) :: (.ofString "_law_join", 2) :: (.ofString "_law_earlier", 2) :: (.ofString "_law_lead", 2) :: (.ofString "_law_size", 1) :: (.ofString "_law_two_traces", 2) :: (.ofString "_law_glyph_holds", 1) :: (.ofString "_law_joins_hold", 3) :: (.ofString "_law_leads_hold", 4) :: (.ofString "law", 1) :: [])
def pss0 : List (List Str) := ([.ofString "n", .ofString "d"] :: [.ofString "a", .ofString "b"] :: [.ofString "a", .ofString "b"] :: [.ofString "a", .ofString "b"] :: [.ofString "a", .ofString "b"] :: [.ofString "n"] :: [.ofString "edges", .ofString "distance"] :: [.ofString "numbers"] :: [.ofString "edges", .ofString "width"] :: [.ofString "first", .ofString "second"] :: [.ofString "trace", .ofString "distance"] :: [.ofString "first", .ofString "second"] :: [.ofString "first", .ofString "second"] :: [.ofString "script", .ofString "k"] :: [.ofString "cell"] :: [.ofString "stream", .ofString "size"] :: [.ofString "actual", .ofString "due"] :: [.ofString "n", .ofString "d"] :: [.ofString "a", .ofString "b"] :: [.ofString "a", .ofString "b"] :: [.ofString "a", .ofString "b", .ofString "c"] :: [.ofString "x", .ofString "y", .ofString "wide", .ofString "high"] :: [.ofString "stream", .ofString "x", .ofString "y"] :: [.ofString "stream", .ofString "kinds"] :: [.ofString "shape"] :: [.ofString "edges", .ofString "parts", .ofString "shift"] :: [.ofString "edges"] :: [.ofString "stream"] :: [.ofString "stream"] :: [.ofString "stream", .ofString "pool", .ofString "many"] :: [.ofString "first", .ofString "second"] :: [.ofString "trace", .ofString "rest"] :: [.ofString "first", .ofString "second"] :: [.ofString "stream"] :: [.ofString "stream", .ofString "pool"] :: [.ofString "stream"] :: [.ofString "one", .ofString "two", .ofString "three"] :: [.ofString "u", .ofString "v", .ofString "s", .ofString "t"] :: [.ofString "script"] :: [])
def glbs0 : List (Str × Pv.D) := ((.ofString "NOTHING", (.tup [(.int 0), (.int 1)])) :: (.ofString "EMPTY", (.tup [(.tup []), (.tup [(.int 0), (.int 1)])])) :: [])
def T : Tab := ⟨fns0, pss0, glbs0, [.ofString "len", .ofString "int", .ofString "abs", .ofString "min", .ofString "sorted", .ofString "list", .ofString "tuple", .ofString "range", .ofString "isinstance", .ofString "bool", .ofString "str"], [(.ofString "gcd", "math.gcd")]⟩
def d0 : He.DefD := ⟨(.ofString "fraction", none), .ofString "fraction", .ofString "fraction", defArgs (top 6), defBody (top 6), defScope (top 6), [], []⟩
def d1 : He.DefD := ⟨(.ofString "plus", none), .ofString "plus", .ofString "plus", defArgs (top 7), defBody (top 7), defScope (top 7), [], []⟩
def d2 : He.DefD := ⟨(.ofString "minus", none), .ofString "minus", .ofString "minus", defArgs (top 8), defBody (top 8), defScope (top 8), [], []⟩
def d3 : He.DefD := ⟨(.ofString "order", none), .ofString "order", .ofString "order", defArgs (top 9), defBody (top 9), defScope (top 9), [], []⟩
def d4 : He.DefD := ⟨(.ofString "lesser", none), .ofString "lesser", .ofString "lesser", defArgs (top 10), defBody (top 10), defScope (top 10), [], []⟩
def d5 : He.DefD := ⟨(.ofString "whole", none), .ofString "whole", .ofString "whole", defArgs (top 11), defBody (top 11), defScope (top 11), [], []⟩
def d6 : He.DefD := ⟨(.ofString "moved_right", none), .ofString "moved_right", .ofString "moved_right", defArgs (top 13), defBody (top 13), defScope (top 13), [], []⟩
def d7 : He.DefD := ⟨(.ofString "least_of", none), .ofString "least_of", .ofString "least_of", defArgs (top 14), defBody (top 14), defScope (top 14), [], []⟩
def d8 : He.DefD := ⟨(.ofString "glyph_trace", none), .ofString "glyph_trace", .ofString "glyph_trace", defArgs (top 17), defBody (top 17), defScope (top 17), [], []⟩
def d9 : He.DefD := ⟨(.ofString "join_traces", none), .ofString "join_traces", .ofString "join_traces", defArgs (top 18), defBody (top 18), defScope (top 18), [], []⟩
def d10 : He.DefD := ⟨(.ofString "moved_back", none), .ofString "moved_back", .ofString "moved_back", defArgs (top 19), defBody (top 19), defScope (top 19), [], []⟩
def d11 : He.DefD := ⟨(.ofString "common_count", none), .ofString "common_count", .ofString "common_count", defArgs (top 20), defBody (top 20), defScope (top 20), [], []⟩
def d12 : He.DefD := ⟨(.ofString "lead", none), .ofString "lead", .ofString "lead", defArgs (top 21), defBody (top 21), defScope (top 21), [], []⟩
def d13 : He.DefD := ⟨(.ofString "_law_cell", none), .ofString "_law_cell", .ofString "_law_cell", defArgs (top 23), defBody (top 23), defScope (top 23), [], []⟩
def d14 : He.DefD := ⟨(.ofString "_law_stream", none), .ofString "_law_stream", .ofString "_law_stream", defArgs (top 24), defBody (top 24), defScope (top 24), [], []⟩
def d15 : He.DefD := ⟨(.ofString "_law_next", none), .ofString "_law_next", .ofString "_law_next", defArgs (top 25), defBody (top 25), defScope (top 25), [], []⟩
def d16 : He.DefD := ⟨(.ofString "_law_same", none), .ofString "_law_same", .ofString "_law_same", defArgs (top 26), defBody (top 26), defScope (top 26), [], []⟩
def d17 : He.DefD := ⟨(.ofString "_law_fraction", none), .ofString "_law_fraction", .ofString "_law_fraction", defArgs (top 27), defBody (top 27), defScope (top 27), [], []⟩
def d18 : He.DefD := ⟨(.ofString "_law_plus", none), .ofString "_law_plus", .ofString "_law_plus", defArgs (top 28), defBody (top 28), defScope (top 28), [], []⟩
def d19 : He.DefD := ⟨(.ofString "_law_minus", none), .ofString "_law_minus", .ofString "_law_minus", defArgs (top 29), defBody (top 29), defScope (top 29), [], []⟩
def d20 : He.DefD := ⟨(.ofString "_law_turn", none), .ofString "_law_turn", .ofString "_law_turn", defArgs (top 30), defBody (top 30), defScope (top 30), [], []⟩
def d21 : He.DefD := ⟨(.ofString "_law_box", none), .ofString "_law_box", .ofString "_law_box", defArgs (top 31), defBody (top 31), defScope (top 31), [], []⟩
def d22 : He.DefD := ⟨(.ofString "_law_triangle", none), .ofString "_law_triangle", .ofString "_law_triangle", defArgs (top 32), defBody (top 32), defScope (top 32), [], []⟩
def d23 : He.DefD := ⟨(.ofString "_law_shape", none), .ofString "_law_shape", .ofString "_law_shape", defArgs (top 33), defBody (top 33), defScope (top 33), [], []⟩
def d24 : He.DefD := ⟨(.ofString "_law_edges", none), .ofString "_law_edges", .ofString "_law_edges", defArgs (top 34), defBody (top 34), defScope (top 34), [], []⟩
def d25 : He.DefD := ⟨(.ofString "_law_border", none), .ofString "_law_border", .ofString "_law_border", defArgs (top 35), defBody (top 35), defScope (top 35), [], []⟩
def d26 : He.DefD := ⟨(.ofString "_law_least", none), .ofString "_law_least", .ofString "_law_least", defArgs (top 36), defBody (top 36), defScope (top 36), [], []⟩
def d27 : He.DefD := ⟨(.ofString "_law_mark", none), .ofString "_law_mark", .ofString "_law_mark", defArgs (top 37), defBody (top 37), defScope (top 37), [], []⟩
def d28 : He.DefD := ⟨(.ofString "_law_small", none), .ofString "_law_small", .ofString "_law_small", defArgs (top 38), defBody (top 38), defScope (top 38), [], []⟩
def d29 : He.DefD := ⟨(.ofString "_law_trace", none), .ofString "_law_trace", .ofString "_law_trace", defArgs (top 39), defBody (top 39), defScope (top 39), [], []⟩
def d30 : He.DefD := ⟨(.ofString "_law_join", none), .ofString "_law_join", .ofString "_law_join", defArgs (top 40), defBody (top 40), defScope (top 40), [], []⟩
def d31 : He.DefD := ⟨(.ofString "_law_earlier", none), .ofString "_law_earlier", .ofString "_law_earlier", defArgs (top 41), defBody (top 41), defScope (top 41), [], []⟩
def d32 : He.DefD := ⟨(.ofString "_law_lead", none), .ofString "_law_lead", .ofString "_law_lead", defArgs (top 42), defBody (top 42), defScope (top 42), [], []⟩
def d33 : He.DefD := ⟨(.ofString "_law_size", none), .ofString "_law_size", .ofString "_law_size", defArgs (top 43), defBody (top 43), defScope (top 43), [], []⟩
def d34 : He.DefD := ⟨(.ofString "_law_two_traces", none), .ofString "_law_two_traces", .ofString "_law_two_traces", defArgs (top 44), defBody (top 44), defScope (top 44), [], []⟩
def d35 : He.DefD := ⟨(.ofString "_law_glyph_holds", none), .ofString "_law_glyph_holds", .ofString "_law_glyph_holds", defArgs (top 45), defBody (top 45), defScope (top 45), [], []⟩
def d36 : He.DefD := ⟨(.ofString "_law_joins_hold", none), .ofString "_law_joins_hold", .ofString "_law_joins_hold", defArgs (top 46), defBody (top 46), defScope (top 46), [], []⟩
def d37 : He.DefD := ⟨(.ofString "_law_leads_hold", none), .ofString "_law_leads_hold", .ofString "_law_leads_hold", defArgs (top 47), defBody (top 47), defScope (top 47), [], []⟩
def d38 : He.DefD := ⟨(.ofString "law", none), .ofString "law", .ofString "law", defArgs (top 48), defBody (top 48), defScope (top 48), [], []⟩
def fn : List He.DefD := (d0 :: d1 :: d2 :: d3 :: d4 :: d5 :: d6 :: d7 :: d8 :: d9 :: d10 :: d11 :: d12 :: d13 :: d14 :: d15 :: d16 :: d17 :: d18 :: d19 :: d20 :: d21 :: d22 :: d23 :: d24 :: d25 :: d26 :: d27 :: d28 :: d29 :: d30 :: d31 :: d32 :: d33 :: d34 :: d35 :: d36 :: d37 :: d38 :: [])
theorem c0 : fnB T K89.f_fraction (.ofString "fraction", 2) d0 [.ofString "n", .ofString "d", .ofString "common"] [.ofString "n", .ofString "d"] = true := by decide +kernel
theorem c1 : fnB T K89.f_plus (.ofString "plus", 2) d1 [.ofString "a", .ofString "b"] [.ofString "a", .ofString "b"] = true := by decide +kernel
theorem c2 : fnB T K89.f_minus (.ofString "minus", 2) d2 [.ofString "a", .ofString "b"] [.ofString "a", .ofString "b"] = true := by decide +kernel
theorem c3 : fnB T K89.f_order (.ofString "order", 2) d3 [.ofString "a", .ofString "b", .ofString "left", .ofString "right"] [.ofString "a", .ofString "b"] = true := by decide +kernel
theorem c4 : fnB T K89.f_lesser (.ofString "lesser", 2) d4 [.ofString "a", .ofString "b"] [.ofString "a", .ofString "b"] = true := by decide +kernel
theorem c5 : fnB T K89.f_whole (.ofString "whole", 1) d5 [.ofString "n"] [.ofString "n"] = true := by decide +kernel
theorem c6 : fnB T K89.f_moved_right (.ofString "moved_right", 2) d6 [.ofString "edges", .ofString "distance", .ofString "moved", .ofString "a", .ofString "b"] [.ofString "edges", .ofString "distance"] = true := by decide +kernel
theorem c7 : fnB T K89.f_least_of (.ofString "least_of", 1) d7 [.ofString "numbers", .ofString "found", .ofString "number"] [.ofString "numbers"] = true := by decide +kernel
theorem c8 : fnB T K89.f_glyph_trace (.ofString "glyph_trace", 2) d8 [.ofString "edges", .ofString "width", .ofString "least", .ofString "a", .ofString "_", .ofString "mark"] [.ofString "edges", .ofString "width"] = true := by decide +kernel
theorem c9 : fnB T K89.f_join_traces (.ofString "join_traces", 2) d9 [.ofString "first", .ofString "second", .ofString "marks", .ofString "rest", .ofString "more", .ofString "end", .ofString "advance", .ofString "mark"] [.ofString "first", .ofString "second"] = true := by decide +kernel
theorem c10 : fnB T K89.f_moved_back (.ofString "moved_back", 2) d10 [.ofString "trace", .ofString "distance", .ofString "marks", .ofString "rest", .ofString "advance", .ofString "mark"] [.ofString "trace", .ofString "distance"] = true := by decide +kernel
theorem c11 : fnB T K89.f_common_count (.ofString "common_count", 2) d11 [.ofString "first", .ofString "second", .ofString "count"] [.ofString "first", .ofString "second"] = true := by decide +kernel
theorem c12 : fnB T K89.f_lead (.ofString "lead", 2) d12 [.ofString "first", .ofString "second", .ofString "count"] [.ofString "first", .ofString "second"] = true := by decide +kernel
theorem c13 : fnB T K89.f_law_cell (.ofString "_law_cell", 2) d13 [.ofString "script", .ofString "k"] [.ofString "script", .ofString "k"] = true := by decide +kernel
theorem c14 : fnB T K89.f_law_stream (.ofString "_law_stream", 1) d14 [.ofString "cell"] [.ofString "cell"] = true := by decide +kernel
theorem c15 : fnB T K89.f_law_next (.ofString "_law_next", 2) d15 [.ofString "stream", .ofString "size", .ofString "drawn", .ofString "mixed"] [.ofString "stream", .ofString "size"] = true := by decide +kernel
theorem c16 : fnB T K89.f_law_same (.ofString "_law_same", 2) d16 [.ofString "actual", .ofString "due", .ofString "k"] [.ofString "actual", .ofString "due"] = true := by decide +kernel
theorem c17 : fnB T K89.f_law_fraction (.ofString "_law_fraction", 2) d17 [.ofString "n", .ofString "d", .ofString "a", .ofString "b"] [.ofString "n", .ofString "d"] = true := by decide +kernel
theorem c18 : fnB T K89.f_law_plus (.ofString "_law_plus", 2) d18 [.ofString "a", .ofString "b"] [.ofString "a", .ofString "b"] = true := by decide +kernel
theorem c19 : fnB T K89.f_law_minus (.ofString "_law_minus", 2) d19 [.ofString "a", .ofString "b"] [.ofString "a", .ofString "b"] = true := by decide +kernel
theorem c20 : fnB T K89.f_law_turn (.ofString "_law_turn", 3) d20 [.ofString "a", .ofString "b", .ofString "c"] [.ofString "a", .ofString "b", .ofString "c"] = true := by decide +kernel
theorem c21 : fnB T K89.f_law_box (.ofString "_law_box", 4) d21 [.ofString "x", .ofString "y", .ofString "wide", .ofString "high"] [.ofString "x", .ofString "y", .ofString "wide", .ofString "high"] = true := by decide +kernel
theorem c22 : fnB T K89.f_law_triangle (.ofString "_law_triangle", 3) d22 [.ofString "stream", .ofString "x", .ofString "y", .ofString "a", .ofString "b", .ofString "turn"] [.ofString "stream", .ofString "x", .ofString "y"] = true := by decide +kernel
theorem c23 : fnB T K89.f_law_shape (.ofString "_law_shape", 2) d23 [.ofString "stream", .ofString "kinds", .ofString "kind", .ofString "x", .ofString "y", .ofString "wide", .ofString "high", .ofString "right", .ofString "other", .ofString "cut", .ofString "a", .ofString "b", .ofString "corners", .ofString "inner", .ofString "outer"] [.ofString "stream", .ofString "kinds"] = true := by decide +kernel
theorem c24 : fnB T K89.f_law_edges (.ofString "_law_edges", 1) d24 [.ofString "shape", .ofString "edges", .ofString "points", .ofString "hole", .ofString "k", .ofString "a", .ofString "b"] [.ofString "shape"] = true := by decide +kernel
theorem c25 : fnB T K89.f_law_border (.ofString "_law_border", 3) d25 [.ofString "edges", .ofString "parts", .ofString "shift", .ofString "told", .ofString "b", .ofString "a", .ofString "d", .ofString "c", .ofString "first", .ofString "second"] [.ofString "edges", .ofString "parts", .ofString "shift"] = true := by decide +kernel
theorem c26 : fnB T K89.f_law_least (.ofString "_law_least", 1) d26 [.ofString "edges", .ofString "edge"] [.ofString "edges"] = true := by decide +kernel
theorem c27 : fnB T K89.f_law_mark (.ofString "_law_mark", 1) d27 [.ofString "stream"] [.ofString "stream"] = true := by decide +kernel
theorem c28 : fnB T K89.f_law_small (.ofString "_law_small", 1) d28 [.ofString "stream", .ofString "number"] [.ofString "stream"] = true := by decide +kernel
theorem c29 : fnB T K89.f_law_trace (.ofString "_law_trace", 3) d29 [.ofString "stream", .ofString "pool", .ofString "many", .ofString "marks", .ofString "k"] [.ofString "stream", .ofString "pool", .ofString "many"] = true := by decide +kernel
theorem c30 : fnB T K89.f_law_join (.ofString "_law_join", 2) d30 [.ofString "first", .ofString "second", .ofString "advance", .ofString "mark"] [.ofString "first", .ofString "second"] = true := by decide +kernel
theorem c31 : fnB T K89.f_law_earlier (.ofString "_law_earlier", 2) d31 [.ofString "trace", .ofString "rest", .ofString "advance", .ofString "mark"] [.ofString "trace", .ofString "rest"] = true := by decide +kernel
theorem c32 : fnB T K89.f_law_lead (.ofString "_law_lead", 2) d32 [.ofString "first", .ofString "second", .ofString "at", .ofString "k", .ofString "a", .ofString "b"] [.ofString "first", .ofString "second"] = true := by decide +kernel
theorem c33 : fnB T K89.f_law_size (.ofString "_law_size", 1) d33 [.ofString "stream"] [.ofString "stream"] = true := by decide +kernel
theorem c34 : fnB T K89.f_law_two_traces (.ofString "_law_two_traces", 2) d34 [.ofString "stream", .ofString "pool", .ofString "head", .ofString "first", .ofString "second", .ofString "kind", .ofString "other"] [.ofString "stream", .ofString "pool"] = true := by decide +kernel
theorem c35 : fnB T K89.f_law_glyph_holds (.ofString "_law_glyph_holds", 1) d35 [.ofString "stream", .ofString "mark", .ofString "shift", .ofString "width", .ofString "least", .ofString "moved", .ofString "due"] [.ofString "stream"] = true := by decide +kernel
theorem c36 : fnB T K89.f_law_joins_hold (.ofString "_law_joins_hold", 3) d36 [.ofString "one", .ofString "two", .ofString "three", .ofString "both", .ofString "due"] [.ofString "one", .ofString "two", .ofString "three"] = true := by decide +kernel
theorem c37 : fnB T K89.f_law_leads_hold (.ofString "_law_leads_hold", 4) d37 [.ofString "u", .ofString "v", .ofString "s", .ofString "t", .ofString "due", .ofString "after", .ofString "actual"] [.ofString "u", .ofString "v", .ofString "s", .ofString "t"] = true := by decide +kernel
theorem c38 : fnB T K89.f_law (.ofString "law", 1) d38 [.ofString "script", .ofString "stream", .ofString "pool", .ofString "k", .ofString "edges", .ofString "parts", .ofString "own", .ofString "u", .ofString "v", .ofString "other", .ofString "s", .ofString "t"] [.ofString "script"] = true := by decide +kernel
theorem b0 : BindOk d0 [.ofString "n", .ofString "d"] := fun _ _ _ _ _ _ us hl => match us, hl with | [_, _], _ => rfl
theorem b1 : BindOk d1 [.ofString "a", .ofString "b"] := fun _ _ _ _ _ _ us hl => match us, hl with | [_, _], _ => rfl
theorem b2 : BindOk d2 [.ofString "a", .ofString "b"] := fun _ _ _ _ _ _ us hl => match us, hl with | [_, _], _ => rfl
theorem b3 : BindOk d3 [.ofString "a", .ofString "b"] := fun _ _ _ _ _ _ us hl => match us, hl with | [_, _], _ => rfl
theorem b4 : BindOk d4 [.ofString "a", .ofString "b"] := fun _ _ _ _ _ _ us hl => match us, hl with | [_, _], _ => rfl
theorem b5 : BindOk d5 [.ofString "n"] := fun _ _ _ _ _ _ us hl => match us, hl with | [_], _ => rfl
theorem b6 : BindOk d6 [.ofString "edges", .ofString "distance"] := fun _ _ _ _ _ _ us hl => match us, hl with | [_, _], _ => rfl
theorem b7 : BindOk d7 [.ofString "numbers"] := fun _ _ _ _ _ _ us hl => match us, hl with | [_], _ => rfl
theorem b8 : BindOk d8 [.ofString "edges", .ofString "width"] := fun _ _ _ _ _ _ us hl => match us, hl with | [_, _], _ => rfl
theorem b9 : BindOk d9 [.ofString "first", .ofString "second"] := fun _ _ _ _ _ _ us hl => match us, hl with | [_, _], _ => rfl
theorem b10 : BindOk d10 [.ofString "trace", .ofString "distance"] := fun _ _ _ _ _ _ us hl => match us, hl with | [_, _], _ => rfl
theorem b11 : BindOk d11 [.ofString "first", .ofString "second"] := fun _ _ _ _ _ _ us hl => match us, hl with | [_, _], _ => rfl
theorem b12 : BindOk d12 [.ofString "first", .ofString "second"] := fun _ _ _ _ _ _ us hl => match us, hl with | [_, _], _ => rfl
theorem b13 : BindOk d13 [.ofString "script", .ofString "k"] := fun _ _ _ _ _ _ us hl => match us, hl with | [_, _], _ => rfl
theorem b14 : BindOk d14 [.ofString "cell"] := fun _ _ _ _ _ _ us hl => match us, hl with | [_], _ => rfl
theorem b15 : BindOk d15 [.ofString "stream", .ofString "size"] := fun _ _ _ _ _ _ us hl => match us, hl with | [_, _], _ => rfl
theorem b16 : BindOk d16 [.ofString "actual", .ofString "due"] := fun _ _ _ _ _ _ us hl => match us, hl with | [_, _], _ => rfl
theorem b17 : BindOk d17 [.ofString "n", .ofString "d"] := fun _ _ _ _ _ _ us hl => match us, hl with | [_, _], _ => rfl
theorem b18 : BindOk d18 [.ofString "a", .ofString "b"] := fun _ _ _ _ _ _ us hl => match us, hl with | [_, _], _ => rfl
theorem b19 : BindOk d19 [.ofString "a", .ofString "b"] := fun _ _ _ _ _ _ us hl => match us, hl with | [_, _], _ => rfl
theorem b20 : BindOk d20 [.ofString "a", .ofString "b", .ofString "c"] := fun _ _ _ _ _ _ us hl => match us, hl with | [_, _, _], _ => rfl
theorem b21 : BindOk d21 [.ofString "x", .ofString "y", .ofString "wide", .ofString "high"] := fun _ _ _ _ _ _ us hl => match us, hl with | [_, _, _, _], _ => rfl
theorem b22 : BindOk d22 [.ofString "stream", .ofString "x", .ofString "y"] := fun _ _ _ _ _ _ us hl => match us, hl with | [_, _, _], _ => rfl
theorem b23 : BindOk d23 [.ofString "stream", .ofString "kinds"] := fun _ _ _ _ _ _ us hl => match us, hl with | [_, _], _ => rfl
theorem b24 : BindOk d24 [.ofString "shape"] := fun _ _ _ _ _ _ us hl => match us, hl with | [_], _ => rfl
theorem b25 : BindOk d25 [.ofString "edges", .ofString "parts", .ofString "shift"] := fun _ _ _ _ _ _ us hl => match us, hl with | [_, _, _], _ => rfl
theorem b26 : BindOk d26 [.ofString "edges"] := fun _ _ _ _ _ _ us hl => match us, hl with | [_], _ => rfl
theorem b27 : BindOk d27 [.ofString "stream"] := fun _ _ _ _ _ _ us hl => match us, hl with | [_], _ => rfl
theorem b28 : BindOk d28 [.ofString "stream"] := fun _ _ _ _ _ _ us hl => match us, hl with | [_], _ => rfl
theorem b29 : BindOk d29 [.ofString "stream", .ofString "pool", .ofString "many"] := fun _ _ _ _ _ _ us hl => match us, hl with | [_, _, _], _ => rfl
theorem b30 : BindOk d30 [.ofString "first", .ofString "second"] := fun _ _ _ _ _ _ us hl => match us, hl with | [_, _], _ => rfl
theorem b31 : BindOk d31 [.ofString "trace", .ofString "rest"] := fun _ _ _ _ _ _ us hl => match us, hl with | [_, _], _ => rfl
theorem b32 : BindOk d32 [.ofString "first", .ofString "second"] := fun _ _ _ _ _ _ us hl => match us, hl with | [_, _], _ => rfl
theorem b33 : BindOk d33 [.ofString "stream"] := fun _ _ _ _ _ _ us hl => match us, hl with | [_], _ => rfl
theorem b34 : BindOk d34 [.ofString "stream", .ofString "pool"] := fun _ _ _ _ _ _ us hl => match us, hl with | [_, _], _ => rfl
theorem b35 : BindOk d35 [.ofString "stream"] := fun _ _ _ _ _ _ us hl => match us, hl with | [_], _ => rfl
theorem b36 : BindOk d36 [.ofString "one", .ofString "two", .ofString "three"] := fun _ _ _ _ _ _ us hl => match us, hl with | [_, _, _], _ => rfl
theorem b37 : BindOk d37 [.ofString "u", .ofString "v", .ofString "s", .ofString "t"] := fun _ _ _ _ _ _ us hl => match us, hl with | [_, _, _, _], _ => rfl
theorem b38 : BindOk d38 [.ofString "script"] := fun _ _ _ _ _ _ us hl => match us, hl with | [_], _ => rfl
theorem fnsOk : FnsOk T K89.prog.fs T.fns fn T.pss := .cons [.ofString "n", .ofString "d", .ofString "common"] c0 b0 (.cons [.ofString "a", .ofString "b"] c1 b1 (.cons [.ofString "a", .ofString "b"] c2 b2 (.cons [.ofString "a", .ofString "b", .ofString "left", .ofString "right"] c3 b3 (.cons [.ofString "a", .ofString "b"] c4 b4 (.cons [.ofString "n"] c5 b5 (.cons [.ofString "edges", .ofString "distance", .ofString "moved", .ofString "a", .ofString "b"] c6 b6 (.cons [.ofString "numbers", .ofString "found", .ofString "number"] c7 b7 (.cons [.ofString "edges", .ofString "width", .ofString "least", .ofString "a", .ofString "_", .ofString "mark"] c8 b8 (.cons [.ofString "first", .ofString "second", .ofString "marks", .ofString "rest", .ofString "more", .ofString "end", .ofString "advance", .ofString "mark"] c9 b9 (.cons [.ofString "trace", .ofString "distance", .ofString "marks", .ofString "rest", .ofString "advance", .ofString "mark"] c10 b10 (.cons [.ofString "first", .ofString "second", .ofString "count"] c11 b11 (.cons [.ofString "first", .ofString "second", .ofString "count"] c12 b12 (.cons [.ofString "script", .ofString "k"] c13 b13 (.cons [.ofString "cell"] c14 b14 (.cons [.ofString "stream", .ofString "size", .ofString "drawn", .ofString "mixed"] c15 b15 (.cons [.ofString "actual", .ofString "due", .ofString "k"] c16 b16 (.cons [.ofString "n", .ofString "d", .ofString "a", .ofString "b"] c17 b17 (.cons [.ofString "a", .ofString "b"] c18 b18 (.cons [.ofString "a", .ofString "b"] c19 b19 (.cons [.ofString "a", .ofString "b", .ofString "c"] c20 b20 (.cons [.ofString "x", .ofString "y", .ofString "wide", .ofString "high"] c21 b21 (.cons [.ofString "stream", .ofString "x", .ofString "y", .ofString "a", .ofString "b", .ofString "turn"] c22 b22 (.cons [.ofString "stream", .ofString "kinds", .ofString "kind", .ofString "x", .ofString "y", .ofString "wide", .ofString "high", .ofString "right", .ofString "other", .ofString "cut", .ofString "a", .ofString "b", .ofString "corners", .ofString "inner", .ofString "outer"] c23 b23 (.cons [.ofString "shape", .ofString "edges", .ofString "points", .ofString "hole", .ofString "k", .ofString "a", .ofString "b"] c24 b24 (.cons [.ofString "edges", .ofString "parts", .ofString "shift", .ofString "told", .ofString "b", .ofString "a", .ofString "d", .ofString "c", .ofString "first", .ofString "second"] c25 b25 (.cons [.ofString "edges", .ofString "edge"] c26 b26 (.cons [.ofString "stream"] c27 b27 (.cons [.ofString "stream", .ofString "number"] c28 b28 (.cons [.ofString "stream", .ofString "pool", .ofString "many", .ofString "marks", .ofString "k"] c29 b29 (.cons [.ofString "first", .ofString "second", .ofString "advance", .ofString "mark"] c30 b30 (.cons [.ofString "trace", .ofString "rest", .ofString "advance", .ofString "mark"] c31 b31 (.cons [.ofString "first", .ofString "second", .ofString "at", .ofString "k", .ofString "a", .ofString "b"] c32 b32 (.cons [.ofString "stream"] c33 b33 (.cons [.ofString "stream", .ofString "pool", .ofString "head", .ofString "first", .ofString "second", .ofString "kind", .ofString "other"] c34 b34 (.cons [.ofString "stream", .ofString "mark", .ofString "shift", .ofString "width", .ofString "least", .ofString "moved", .ofString "due"] c35 b35 (.cons [.ofString "one", .ofString "two", .ofString "three", .ofString "both", .ofString "due"] c36 b36 (.cons [.ofString "u", .ofString "v", .ofString "s", .ofString "t", .ofString "due", .ofString "after", .ofString "actual"] c37 b37 (.cons [.ofString "script", .ofString "stream", .ofString "pool", .ofString "k", .ofString "edges", .ofString "parts", .ofString "own", .ofString "u", .ofString "v", .ofString "other", .ofString "s", .ofString "t"] c38 b38 (.nil)))))))))))))))))))))))))))))))))))))))
end K89H
namespace K89H
open PySem PySem.Spec PyProof.Rows L2 Ps
abbrev R : PySem.W.OpenRow := PySem.W.OpenLaw.row PySem.Challenge.rw_fontalike_k89_traces_and_leads
abbrev hk : PySem.W.Hook := hookE 5 T (faOf T) fn
def ob (s : PySem.W.SharedT) : AlE := obsEG 5 T (faOf T) fn (HandSHeadRun.getT s)
theorem ob_eq (s : PySem.W.SharedT) : ob s = hk.obs s.abs := obsEG_eq (HandSHeadRun.getT_eq s)
def loose : List Str := (.ofString "gcd" :: .ofString "FontError" :: .ofString "DivisionByZero" :: .ofString "NOTHING" :: .ofString "fraction" :: .ofString "plus" :: .ofString "minus" :: .ofString "order" :: .ofString "lesser" :: .ofString "whole" :: .ofString "moved_right" :: .ofString "least_of" :: .ofString "EMPTY" :: .ofString "glyph_trace" :: .ofString "join_traces" :: .ofString "moved_back" :: .ofString "common_count" :: .ofString "lead" :: .ofString "_law_cell" :: .ofString "_law_stream" :: .ofString "_law_next" :: .ofString "_law_same" :: .ofString "_law_fraction" :: .ofString "_law_plus" :: .ofString "_law_minus" :: .ofString "_law_turn" :: .ofString "_law_box" :: .ofString "_law_triangle" :: .ofString "_law_shape" :: .ofString "_law_edges" :: .ofString "_law_border" :: .ofString "_law_least" :: .ofString "_law_mark" :: .ofString "_law_small" :: .ofString "_law_trace" :: .ofString "_law_join" :: .ofString "_law_earlier" :: .ofString "_law_lead" :: .ofString "_law_size" :: .ofString "_law_two_traces" :: .ofString "_law_glyph_holds" :: .ofString "_law_joins_hold" :: .ofString "_law_leads_hold" :: [])
theorem run (w : World) : HandSHeadRun.RunEqI R (PySem.W.view R.prog [0, 48]) hk ob 4000 loose w := by
  unfold HandSHeadRun.RunEqI
  kernel_rfl
end K89H
end

open PySem PySem.W PySem.Calls PyProof.Rows in
theorem PySem.Challenge.cw_fontalike_k89_traces_and_leads_holds : PySem.Challenge.rw_fontalike_k89_traces_and_leads.Holds := by
  w_on; o_law
  refine HandSHeadRun.head_imp (r := OpenLaw.row PySem.Challenge.rw_fontalike_k89_traces_and_leads) (q := view (OpenLaw.row PySem.Challenge.rw_fontalike_k89_traces_and_leads).prog [0, 48]) (H := K89H.hk) (ob := K89H.ob) (M := 4000) (loose := K89H.loose) (d := HandSHeadRun.topDef (OpenLaw.row PySem.Challenge.rw_fontalike_k89_traces_and_leads).prog 48) (kwd := []) K89H.ob_eq K89H.run
    (by kernel_rfl) (by kernel_rfl) (by kernel_rfl) (by rfl) (by first | assumption | decide +kernel) (by decide +kernel) ⟨rfl, rfl, rfl, rfl, rfl, by decide +kernel⟩ ?hw ?hc
  case hw => w_witness2
  case hc =>
    refine L2.walk_ofE (l := PySem.Challenge.rw_fontalike_k89_traces_and_leads) (n := 63) (k := 60) (x := "script") (CX := Ps.CXn) rfl (by decide) (by kernel_rfl) ⟨rfl, by decide, by decide⟩ ?F (fun _ _ _ _ z => z)
    intro w mg fa h Y G hmg0
    obtain ⟨K, KX, c⟩ := Y
    have hmg : mg ("law" : PySem.Str) = some (.ref fa) := by
      have e : (HandSHeadRun.topDef (OpenLaw.row PySem.Challenge.rw_fontalike_k89_traces_and_leads).prog 48).name = ("law" : PySem.Str) := by kernel_rfl
      rw [← e]
      exact hmg0
    obtain ⟨fd, sp, hb, hs, hF⟩ := Ps.end_ok (P := (PySem.Challenge.rw_fontalike_k89_traces_and_leads).prog) (w := w) (g := 38) (n := 60) (x := "law") (y := "script") (fun _ => Value.none) KX G c K89H.fnsOk rfl hmg rfl K89.holds
    exact ⟨K, fd, sp, KX, hb, fun H a ns hl _ hS => hs H a ns hS, fun base _ _ => hF base⟩
