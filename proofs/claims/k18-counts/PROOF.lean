import PyProof.Rows.All
import Wide.All
import OpenK.AllK
import Wide.FinOn
import PySem.Str
import HandS.ForMost
import HandS.ForExc
import HandS.Star
import HandS.Property
import HandS.DictComp
import HandS.Conv
import HandS.Defaults
import HandS.Flow
import HandS.Lambda
import KE.KDictKeyed
import KE.KDictSum
import HandS.TupAny
import HandS.IsInst
import HandS.CallSlots
import HandS.Codes
import HandS.More
import PyProof.Rows.TupDisplay
import OpenK.KMeth
import HandS.Iter
import HandS.Comp
import HandS.ExcField
import KE.GoesMore
import KE.SortKeyHeap
import HandS.HeadHook4
import KE.SortData
import HandS.HeadWalk
import HandS.Head0
import HandS.Head1
import HandS.Head2
import HandS.HeadEnd
import KE.KStateDown
import Wide.Once
import PySem.Challenge.RW_maskedlevels_k18_whole_counts_of_great_p
set_option Elab.async false
set_option linter.all false
set_option autoImplicit false
set_option maxRecDepth 100000
set_option maxHeartbeats 0
/-! A small functional semantics of the part of Python that the package and the laws use (own work). -/
namespace Mp
open PySem (Str)

/-- values: immutable trees; lists, dicts, instances as they are once they are not changed any more; loc n: a thing that may be changed, at place n of the store -/
inductive D where
  | non | bl (b : Bool) | int (i : Int) | str (s : Str)
  | tup (l : List D) | lst (l : List D) | dct (k : Bool) (l : List (D × D)) | obj (c : String) (l : List (String × D))
  | loc (n : Nat)
  /-- the law's script: a list of ints that stands for good -/
  | scr (l : List Int)
  deriving Inhabited

abbrev Mu := List (Option D)
structure Xn where
  c : String
  l : List (String × D)

inductive Res (α : Type) where
  | ok (a : α) (μ : Mu)
  | exc (x : Xn) (μ : Mu)
  | bad
abbrev M (α : Type) := Mu → Res α
@[inline] def M.ret {α : Type} (a : α) : M α := fun μ => .ok a μ
def Res.bind {α β : Type} : Res α → (α → M β) → Res β
  | .ok a μ, f => f a μ
  | .exc x μ, _ => .exc x μ
  | .bad, _ => .bad
def M.bind {α β : Type} (m : M α) (f : α → M β) : M β := fun μ => (m μ).bind f
instance : Monad M where
  pure := M.ret
  bind := M.bind
def M.bad {α : Type} : M α := fun _ => .bad
def M.throw {α : Type} (x : Xn) : M α := fun μ => .exc x μ
def M.get : M Mu := fun μ => .ok μ μ
def M.set (μ : Mu) : M Unit := fun _ => .ok () μ
def M.some? {α : Type} : Option α → M α
  | some a => M.ret a
  | none => M.bad

/-! ### syntax -/
inductive BOp | add | sub | mul | mod | fdiv | pow
  deriving DecidableEq
inductive COp | lt | le | gt | ge | eq | ne | is_ | isn | in_ | nin
  deriving DecidableEq
inductive Bi | len | int | str | list | tuple | dict | max | min | all | any | sum | sortS | abs
  deriving DecidableEq
inductive Ty | int | bool | str | tuple | list | dict | cls (c : String)
  deriving DecidableEq
inductive Tg | name (i : Nat) | names (l : List Nat)

/-! ### variables -/
inductive O | dat (d : D) | own (d : D)
abbrev Rho := List (Option O)
/-- a reference: a value, or a thing of the def's own, at a slot -/
inductive Q | val (d : D) | slot (i : Nat)

def content : D → M D
  | .loc n => fun μ => match μ[n]? with
    | some (some d) => .ok d μ
    | _ => .bad
  | d => M.ret d
def cont (ρ : Rho) : Q → M D
  | .val d => content d
  | .slot i => match ρ[i]? with
    | some (some (.own d)) => M.ret d
    | _ => M.bad
def conts (ρ : Rho) : List Q → M (List D)
  | [] => M.ret []
  | q :: r => do
    let d ← cont ρ q
    let l ← conts ρ r
    M.ret (d :: l)

/-! ### data compared -/
mutual
/-- data, its depth at most the number: what == tells apart as data -/
def plain : Nat → D → Bool
  | _, .non => true
  | _, .bl _ => true
  | _, .int _ => true
  | _, .str s => s.cps.all (· < 0x110000)
  | n + 1, .tup l => plains n l
  | n + 1, .lst l => plains n l
  | _, _ => false
def plains : Nat → List D → Bool
  | _, [] => true
  | n, d :: r => plain n d && plains n r
end
def b2i (b : Bool) : Int := if b then 1 else 0
mutual
def eqv : D → D → Bool
  | .non, .non => true
  | .bl a, .bl b => a == b
  | .bl a, .int j => b2i a == j
  | .int i, .bl b => i == b2i b
  | .int i, .int j => i == j
  | .str x, .str y => x == y
  | .lst l, .lst m => eqvs l m
  | .tup l, .tup m => eqvs l m
  | _, _ => false
def eqvs : List D → List D → Bool
  | [], [] => true
  | d :: r, e :: q => eqv d e && eqvs r q
  | _, _ => false
end
def eqM (a b : D) : Option Bool := if plain 64 a && plain 64 b then some (eqv a b) else none
mutual
/-- what may stand in a key -/
def hk : Nat → D → Bool
  | _, .non => true
  | _, .bl _ => true
  | _, .int _ => true
  | _, .str _ => true
  | n + 1, .tup l => hks n l
  | _, _ => false
def hks : Nat → List D → Bool
  | _, [] => true
  | n, d :: r => hk n d && hks n r
end
/-- what may be a key: atoms (False), or tuples (True) of a depth of at most 8 -/
def keyOk (k : Bool) : D → Bool
  | .int _ => !k
  | .str _ => !k
  | .tup l => k && hks 7 l
  | _ => false
def look (l : List (D × D)) (k : D) : Option D := (l.find? fun p => eqv p.1 k).map (·.2)
def put (l : List (D × D)) (k v : D) : List (D × D) :=
  if (look l k).isSome then l.map (fun p => if eqv p.1 k then (p.1, v) else p) else l ++ [(k, v)]
def putS : List (String × D) → String → D → List (String × D)
  | [], k, v => [(k, v)]
  | (a, b) :: r, k, v => if a = k then (a, v) :: r else (a, b) :: putS r k v

/-! ### operations on contents -/
def line : Nat := 16777216
def truth : D → Option Bool
  | .non => some false
  | .bl b => some b
  | .int i => some (i != 0)
  | .str s => if s.length ≤ line then some (s.length != 0) else none
  | .tup l => some (!l.isEmpty)
  | .lst l => some (!l.isEmpty)
  | .dct false l => some (!l.isEmpty)
  | _ => none
def small (i : Int) : Bool := decide (-(2 ^ 64) < i) && decide (i < 2 ^ 64)
def binop : BOp → D → D → Option D
  | .add, .int i, .int j => some (.int (i + j))
  | .add, .str x, .str y => if x.length + y.length ≤ line then some (.str (x ++ y)) else none
  | .add, .lst l, .lst m => if l.length + m.length ≤ line then some (.lst (l ++ m)) else none
  | .add, .tup l, .tup m => if l.length + m.length ≤ line then some (.tup (l ++ m)) else none
  | .sub, .int i, .int j => some (.int (i - j))
  | .mul, .int i, .int j => if small i || small j then some (.int (i * j)) else none
  | .mul, .lst l, .int j => if decide (-(2 ^ 62) ≤ j) && decide (j < 2 ^ 62) && decide (l.length * j.toNat ≤ line) then some (.lst ((List.replicate j.toNat l).flatten)) else none
  | .mod, .int i, .int j => if j ≠ 0 then some (.int (i.fmod j)) else none
  | .fdiv, .int i, .int j => if j ≠ 0 ∧ j.natAbs < 1073741824 then some (.int (i.fdiv j)) else none
  | .pow, .int i, .int j => if 0 ≤ j ∧ j ≤ 1000 ∧ i.natAbs < 2 ^ 64 then some (.int (i ^ j.toNat)) else none
  | _, _, _ => none
/-- atoms -/
def flat : D → Bool
  | .non => true
  | .bl _ => true
  | .int _ => true
  | .str _ => true
  | _ => false
def inL (x : D) (l : List D) : Option Bool := if flat x && l.all flat then some (l.any fun d => eqv d x) else none
def inS (x y : Str) : Option Bool := match x.cps.toList with
  | [c] => some (decide (c ∈ y.cps.toList))
  | _ => none
def inD (k : Bool) (l : List (D × D)) (x : D) : Option Bool := if keyOk k x then some (look l x).isSome else none
def inC (x : D) : D → Option Bool
  | .lst l => inL x l
  | .tup l => inL x l
  | .dct k l => inD k l x
  | .str y => match x with
    | .str x => inS x y
    | _ => none
  | _ => none
def isNo : D → Bool
  | .non => true
  | _ => false
/-- unlike; the script and [] -/
def neM : D → D → Option Bool
  | .scr l, .lst [] => some (!l.isEmpty)
  | a, b => (eqM a b).map (!·)
def cmpop : COp → D → D → Option Bool
  | .lt, .int i, .int j => some (decide (i < j))
  | .le, .int i, .int j => some (decide (i ≤ j))
  | .gt, .int i, .int j => some (decide (j < i))
  | .ge, .int i, .int j => some (decide (j ≤ i))
  | .eq, a, b => eqM a b
  | .ne, a, b => neM a b
  | .is_, a, .non => some (isNo a)
  | .isn, a, .non => some (!isNo a)
  | .in_, x, c => inC x c
  | .nin, x, c => (inC x c).map (!·)
  | _, _, _ => none
def ixM (n : Nat) (i : Int) : Option Nat := if 0 ≤ i then (if i < n then some i.toNat else none) else if -(n : Int) ≤ i then some (i + n).toNat else none
def at_ {α : Type} (l : List α) (i : Int) : Option α := (ixM l.length i).bind fun j => l[j]?
def index : D → D → Option D
  | .lst l, .int i => at_ l i
  | .scr l, .int i => (at_ l i).map .int
  | .tup l, .int i => at_ l i
  | .str s, .int i => if s.length ≤ line then (at_ s.cps.toList i).map fun c => .str ⟨#[c]⟩ else none
  | .dct k l, x => if keyOk k x then look l x else none
  | _, _ => none
/-- the bounds of a slice with step one -/
def bound (n : Nat) (i : Int) : Nat := if i < 0 then (i + n).toNat else min i.toNat n
def lo_ (n d : Nat) : Option Int → Nat
  | none => d
  | some i => bound n i
def cut {α : Type} (l : List α) (lo hi : Option Int) : List α := (l.drop (lo_ l.length 0 lo)).take (lo_ l.length l.length hi - lo_ l.length 0 lo)
def slice (d : D) (lo hi : Option Int) : Option D := match d with
  | .lst l => some (.lst (cut l lo hi))
  | .tup l => some (.tup (cut l lo hi))
  | _ => none
def bndOf : List D → Option (Option Int)
  | [] => some none
  | [.int i] => some (some i)
  | _ => none
/-- what a walk over a content gives, item by item -/
def itemsOf : D → Option (List D)
  | .lst l => some l
  | .tup l => some l
  | .dct _ l => some (l.map (·.1))
  | .str s => if s.length ≤ line then some (s.cps.toList.map fun c => .str ⟨#[c]⟩) else none
  | _ => none
def rangeL (a : Int) (c : Int) : Nat → List D
  | 0 => []
  | n + 1 => .int a :: rangeL (a + c) c n
def range1 : D → Option (List D)
  | .int j => if -(2 ^ 62) ≤ j ∧ j < 2 ^ 62 then some (rangeL 0 1 j.toNat) else none
  | _ => none
def range3 : D → D → D → Option (List D)
  | .int i, .int j, .int c => if c = -1 ∧ -(2 ^ 62) ≤ i ∧ i < 2 ^ 62 ∧ -(2 ^ 62) ≤ j ∧ j < 2 ^ 62 then some (rangeL i (-1) (i - j).toNat) else none
  | _, _, _ => none
def enumL (n : Int) : List D → List D
  | [] => []
  | d :: r => .tup [.int n, d] :: enumL (n + 1) r
def zipL : List D → List D → List D
  | a :: r, b :: q => .tup [a, b] :: zipL r q
  | _, _ => []
def strsOf : List D → Option (List Str)
  | [] => some []
  | .str s :: r => (strsOf r).map (s :: ·)
  | _ => none
/-- texts in the order of their codes -/
def leS (a b : Str) : Bool := !decide (b.cps.toList < a.cps.toList)
def insS (x : Str) : List Str → List Str
  | [] => [x]
  | y :: r => if leS x y then x :: y :: r else y :: insS x r
def sortS : List Str → List Str
  | [] => []
  | x :: r => insS x (sortS r)
def pairsOf (k : Bool) : List D → Option (List (D × D))
  | [] => some []
  | .tup [a, b] :: r => if keyOk k a then (pairsOf k r).map ((a, b) :: ·) else none
  | _ => none
def putAll : List (D × D) → List (D × D) → List (D × D)
  | l, [] => l
  | l, (a, b) :: r => putAll (put l a b) r
def boolsOf : List D → Option (List Bool)
  | [] => some []
  | .bl b :: r => (boolsOf r).map (b :: ·)
  | _ => none
def intsOf : List D → Option (List Int)
  | [] => some []
  | .int i :: r => (intsOf r).map (i :: ·)
  | _ => none
def bfun : Bi → List D → Option D
  | .len, [.lst l] => some (.int l.length)
  | .len, [.scr l] => some (.int l.length)
  | .len, [.tup l] => some (.int l.length)
  | .len, [.dct _ l] => some (.int l.length)
  | .len, [.str s] => if s.length ≤ line then some (.int s.length) else none
  | .int, [.int i] => some (.int i)
  | .int, [.bl b] => some (.int (b2i b))
  | .str, [.str s] => some (.str s)
  | .list, [.lst l] => some (.lst l)
  | .list, [.tup l] => some (.lst l)
  | .list, [.dct false l] => some (.lst (l.map (·.1)))
  | .dict, [.lst l] => (pairsOf false l).map fun ps => .dct false (putAll [] ps)
  | .max, [.int i, .int j] => some (.int (if j > i then j else i))
  | .min, [.int i, .int j] => some (.int (if j < i then j else i))
  | .all, [.lst l] => (boolsOf l).map fun b => .bl (b.all id)
  | .any, [.lst l] => (boolsOf l).map fun b => .bl (b.any id)
  | .sum, [.lst l] => (intsOf l).map fun i => .int i.sum
  | _, _ => none
def indexOf (x : D) : List D → Option Nat
  | [] => none
  | d :: r => if eqv d x then some 0 else (indexOf x r).map (· + 1)
def isTy : Ty → D → Option Bool
  | .cls c, .obj k _ => if k = c then some true else none
  | .cls _, _ => none
  | _, .loc _ => none
  | _, .scr _ => none
  | _, .obj _ _ => none
  | _, .dct true _ => none
  | .int, .int _ => some true
  | .int, .bl _ => some true
  | .bool, .bl _ => some true
  | .str, .str _ => some true
  | .tuple, .tup _ => some true
  | .list, .lst _ => some true
  | .dict, .dct false _ => some true
  | _, _ => some false

/-! ### expressions -/
def valOf (ρ : Rho) (i : Nat) : M D := match ρ[i]? with
  | some (some (.dat d)) => M.ret d
  | _ => M.bad
def wipe (ρ : Rho) : List Nat → Rho
  | [] => ρ
  | v :: vs => (wipe ρ vs).set v none
def setAll (ρ : Rho) : List Nat → List D → Option Rho
  | [], [] => some ρ
  | i :: is, d :: ds => setAll (ρ.set i (some (.dat d))) is ds
  | _, _ => none
/-- a target takes a value -/
def assign (ρ : Rho) : Tg → D → Option Rho
  | .name i, d => some (ρ.set i (some (.dat d)))
  | .names is, .tup l => setAll ρ is l
  | _, _ => none
def consO {α : Type} : Option α → List α → List α
  | some x, l => x :: l
  | none, l => l
def compM {α : Type} (f : D → M (Option α)) : List D → M (List α)
  | [] => M.ret []
  | d :: r => do
    let o ← f d
    let l ← compM f r
    M.ret (consO o l)
def noExc {α : Type} (m : M α) : M α := fun μ => match m μ with
  | .ok a μ => .ok a μ
  | _ => .bad
def getF (c f : String) : D → M D
  | .obj k l => if k = c then M.some? (l.lookup f) else M.bad
  | _ => M.bad
def isC (c : String) : D → Bool
  | .obj k _ => k == c
  | _ => false
/-- of that class, and no field of its own by that name -/
def isM (c m : String) : D → Bool
  | .obj k l => k == c && (l.lookup m).isNone
  | _ => false
def splice (star : Bool) (d : D) : M (List D) := match star with
  | false => M.ret [d]
  | true => do
    let c ← content d
    match c with
    | .lst l => M.ret l
    | .tup l => M.ret l
    | _ => M.bad
def zipP : List D → List D → List (D × D)
  | a :: r, b :: q => (a, b) :: zipP r q
  | _, _ => []
def sized (l : List D) : M Unit := if l.length ≤ line then M.ret () else M.bad
def few (l : List D) : M Unit := if l.length ≤ 4000 then M.ret () else M.bad

/-- what an expression does: as a value, as a test, as what a for walks, as a reference -/
structure Den where
  v : Rho → M D
  t : Rho → M Bool
  it : Rho → M (List D)
  q : Rho → M Q
def truthM (d : D) : M Bool := M.some? (truth d)
def Den.ofV (v : Rho → M D) : Den :=
  ⟨v, fun ρ => do
    let d ← v ρ
    let c ← content d
    truthM c, fun ρ => do
    let d ← v ρ
    M.some? (itemsOf d), fun ρ => do
    let d ← v ρ
    M.ret (.val d)⟩
def Den.ofT (v : Rho → M D) (t : Rho → M Bool) : Den := { Den.ofV v with t := t }
def Den.ofI (it : Rho → M (List D)) : Den := ⟨fun _ => M.bad, fun _ => M.bad, it, fun _ => M.bad⟩
def refVar (ρ : Rho) (i : Nat) : M Q := match ρ[i]? with
  | some (some (.dat d)) => M.ret (.val d)
  | some (some (.own _)) => M.ret (.slot i)
  | _ => M.bad
abbrev Dens := List (Bool × Den)
def evs (ρ : Rho) : Dens → M (List D)
  | [] => M.ret []
  | (star, e) :: r => do
    let d ← e.v ρ
    let l ← splice star d
    let m ← evs ρ r
    M.ret (l ++ m)
def evQs (ρ : Rho) : Dens → M (List Q)
  | [] => M.ret []
  | (_, e) :: r => do
    let q ← e.q ρ
    let m ← evQs ρ r
    M.ret (q :: m)
def evP (ρ : Rho) (k : Bool) : Dens → Dens → M (List (D × D))
  | (_, a) :: r, (_, b) :: q => do
    let x ← a.v ρ
    let y ← b.v ρ
    let l ← evP ρ k r q
    if keyOk k x then M.ret ((x, y) :: l) else M.bad
  | [], [] => M.ret []
  | _, _ => M.bad
def valQ : Q → M D
  | .val d => M.ret d
  | .slot _ => M.bad
def leftOf (ρ : Rho) : COp → Q → M D
  | .in_, q => valQ q
  | .nin, q => valQ q
  | _, q => cont ρ q
def evC (o : COp) (a b : Den) (ρ : Rho) : M Bool := do
  let x ← a.q ρ
  let y ← b.q ρ
  let x ← leftOf ρ o x
  let y ← cont ρ y
  M.some? (cmpop o x y)
def evAnd (ρ : Rho) : Dens → M D
  | [] => M.bad
  | [(_, a)] => a.v ρ
  | (_, a) :: r => do
    let x ← a.v ρ
    let c ← content x
    let b ← truthM c
    if b then evAnd ρ r else M.ret x
def evOr (ρ : Rho) : Dens → M D
  | [] => M.bad
  | [(_, a)] => a.v ρ
  | (_, a) :: r => do
    let x ← a.v ρ
    let c ← content x
    let b ← truthM c
    if b then M.ret x else evOr ρ r
def evAndT (ρ : Rho) : Dens → M Bool
  | [] => M.bad
  | [(_, a)] => a.t ρ
  | (_, a) :: r => do
    let c ← a.t ρ
    if c then evAndT ρ r else M.ret false
def evOrT (ρ : Rho) : Dens → M Bool
  | [] => M.bad
  | [(_, a)] => a.t ρ
  | (_, a) :: r => do
    let c ← a.t ρ
    if c then M.ret true else evOrT ρ r
def evIfs (ρ : Rho) : Dens → M Bool
  | [] => M.ret true
  | [(_, c)] => c.t ρ
  | _ => M.bad
/-- one turn of a comprehension -/
def turn {α : Type} (vs : List Nat) (tg : Tg) (ifs : Dens) (none_ : α) (k : Rho → M α) (ρ : Rho) (d : D) : M α := do
  let ρ' ← M.some? (assign (wipe ρ vs) tg d)
  let c ← evIfs ρ' ifs
  if c then k ρ' else M.ret none_
def negM : D → M D
  | .int i => M.ret (.int (-i))
  | _ => M.bad
def frzM : D → M D
  | .loc n => fun μ => match μ[n]? with
    | some (some (.obj c l)) => .ok (.obj c l) (μ.set n none)
    | _ => .bad
  | _ => M.bad
def locM : D → M D
  | .lst l => fun μ => .ok (.loc μ.length) (μ ++ [some (.lst l)])
  | .dct k l => fun μ => .ok (.loc μ.length) (μ ++ [some (.dct k l)])
  | _ => M.bad
def isNon (r : D) (n : Nat) : M D := match r with
  | .non => M.ret (.loc n)
  | _ => M.bad
def enumM : D → M (List D)
  | .lst l => M.ret (enumL 0 l)
  | _ => M.bad
def evO (ρ : Rho) : Option Den → M (Option Int)
  | none => M.ret none
  | some e => do
    let d ← e.v ρ
    match d with
    | .int i => M.ret (some i)
    | _ => M.bad
def valsM : D → M (List D)
  | .dct false l => M.ret (l.map (·.2))
  | _ => M.bad
def itemsM : D → M (List D)
  | .dct _ l => M.ret (l.map fun p => .tup [p.1, p.2])
  | _ => M.bad

def dctOr {α : Type} (d : D) (f : Bool → List (D × D) → M α) : M α := match d with
  | .dct k l => f k l
  | _ => M.bad
def lstOr {α : Type} (d : D) (f : List D → M α) : M α := match d with
  | .lst l => f l
  | _ => M.bad
/-! ### calls -/
/-- a def: from its arguments -/
abbrev Fn := List D → M D
def callC (c m : String) (f : Fn) (e : Den) (l : Dens) (ρ : Rho) : M D := do
  let x ← e.v ρ
  let o ← content x
  if isM c m o then do
    let ds ← evs ρ l
    f (x :: ds)
  else M.bad
def propC (c : String) (f : Fn) (e : Den) (ρ : Rho) : M D := do
  let x ← e.v ρ
  let o ← content x
  if isC c o then noExc (f [x]) else M.bad
def makeM (c : String) (f : Fn) (ds : List D) : M D :=
  fun μ => (f (.loc μ.length :: ds) (μ ++ [some (.obj c [])])).bind fun r => isNon r μ.length
def amongC (neg : Bool) : D → M Bool
  | .bl b => M.ret (b != neg)
  | _ => M.bad
/-- x in o, o of the text's own class -/
def evIn (neg : Bool) (c : String) (f : Fn) (a e : Den) (ρ : Rho) : M Bool := do
  let y ← a.v ρ
  let x ← e.v ρ
  let o ← content x
  if isC c o then do
    let r ← noExc (f [x, y])
    amongC neg r
  else M.bad

/-! ### expressions, as combinators -/
namespace Dn
def bad : Den := .ofV fun _ => M.bad
def var (i : Nat) : Den := ⟨fun ρ => valOf ρ i, fun ρ => do
      let q ← refVar ρ i
      let c ← cont ρ q
      truthM c, fun ρ => do
      let d ← valOf ρ i
      M.some? (itemsOf d), fun ρ => refVar ρ i⟩
def cst (d : D) : Den := .ofV fun _ => M.ret d
def bin (o : BOp) (a b : Den) : Den := .ofV fun ρ => do
    let x ← a.q ρ
    let y ← b.q ρ
    let x ← cont ρ x
    let y ← cont ρ y
    M.some? (binop o x y)
def cmp (o : COp) (a b : Den) : Den := .ofT (fun ρ => do
    let c ← evC o a b ρ
    M.ret (.bl c)) fun ρ => evC o a b ρ
def among (neg : Bool) (c : String) (f : Fn) (a e : Den) : Den := .ofT (fun ρ => do
    let b ← evIn neg c f a e ρ
    M.ret (.bl b)) fun ρ => evIn neg c f a e ρ
def chain (o p : COp) (a b c : Den) : Den := .ofV fun ρ => do
    let x ← a.v ρ
    let y ← b.v ρ
    let k ← M.some? (cmpop o x y)
    if k then do
      let z ← c.v ρ
      let k ← M.some? (cmpop p y z)
      M.ret (.bl k)
    else M.ret (.bl false)
def and_ (l : Dens) : Den := .ofT (fun ρ => evAnd ρ l) fun ρ => evAndT ρ l
def or_ (l : Dens) : Den := .ofT (fun ρ => evOr ρ l) fun ρ => evOrT ρ l
def not_ (a : Den) : Den := .ofT (fun ρ => do
    let q ← a.q ρ
    let c ← cont ρ q
    let b ← truthM c
    M.ret (.bl (!b))) fun ρ => do
    let c ← a.t ρ
    M.ret (!c)
def ite (c a b : Den) : Den := .ofT (fun ρ => do
    let k ← c.t ρ
    if k then a.v ρ else b.v ρ) fun ρ => do
    let k ← c.t ρ
    if k then a.t ρ else b.t ρ
def neg (a : Den) : Den := .ofV fun ρ => do
    let x ← a.v ρ
    negM x
def tup (l : Dens) : Den := .ofV fun ρ => do
    let ds ← evs ρ l
    sized ds
    M.ret (.tup ds)
def lst (l : Dens) : Den := .ofV fun ρ => do
    let ds ← evs ρ l
    sized ds
    M.ret (.lst ds)
def dct (k : Bool) (ks vs : Dens) : Den := .ofV fun ρ => do
    let ps ← noExc (evP ρ k ks vs)
    if ps.length ≤ 15 then M.ret (.dct k (putAll [] ps)) else M.bad
def call (f : Fn) (l : Dens) : Den := .ofV fun ρ => do
    let ds ← evs ρ l
    f ds
/-- C(..), then the defaults -/
def make (c : String) (f : Fn) (l : Dens) (df : List D) : Den := .ofV fun ρ => do
    let ds ← evs ρ l
    makeM c f (ds ++ df)
def meth (c m : String) (f : Fn) (e : Den) (l : Dens) : Den := .ofV fun ρ => callC c m f e l ρ
def prop (c : String) (f : Fn) (e : Den) : Den := .ofV fun ρ => propC c f e ρ
/-- o[k], o of the text's own class -/
def item (c : String) (f : Fn) (e i : Den) : Den := .ofV fun ρ => do
  let x ← e.v ρ
  let k ← i.v ρ
  let o ← content x
  if isC c o then noExc (f [x, k]) else M.bad
def attr (c : String) (e : Den) (f : String) : Den := .ofV fun ρ => do
    let x ← e.v ρ
    let o ← content x
    getF c f o
def idx (e i : Den) : Den := .ofV fun ρ => do
    let x ← e.q ρ
    let k ← i.v ρ
    let c ← cont ρ x
    M.some? (index c k)
def sli (e : Den) (lo hi : Option Den) : Den := .ofV fun ρ => do
    let x ← e.v ρ
    let a ← evO ρ lo
    let b ← evO ρ hi
    M.some? (slice x a b)
def bi1 (b : Bi) (a : Den) : Den := .ofV fun ρ => do
    let q ← a.q ρ
    let c ← cont ρ q
    M.some? (bfun b [c])
def bi2 (b : Bi) (a e : Den) : Den := .ofV fun ρ => do
    let x ← a.v ρ
    let y ← e.v ρ
    M.some? (bfun b [x, y])
def getD (e a b : Den) : Den := .ofV fun ρ => do
    let x ← e.v ρ
    dctOr x fun k l => do
      let y ← a.v ρ
      let z ← b.v ρ
      M.some? (if keyOk k y then some ((look l y).getD z) else none)
def index (e a : Den) : Den := .ofV fun ρ => do
    let x ← e.v ρ
    lstOr x fun l => do
      let y ← a.v ρ
      M.some? (if flat y && l.all flat then (indexOf y l).map fun n => .int (n : Nat) else none)
def isi (e : Den) (t : Ty) : Den := .ofV fun ρ => do
    let x ← e.q ρ
    let c ← cont ρ x
    let b ← M.some? (isTy t c)
    M.ret (.bl b)
def lc (vs : List Nat) (tg : Tg) (it : Rho → M (List D)) (ifs : Dens) (x : Den) : Den := .ofV fun ρ => do
    let ds ← it ρ
    sized ds
    let l ← compM (fun d => noExc (turn vs tg ifs none (fun ρ' => do
      let y ← x.v ρ'
      M.ret (some y)) ρ d)) ds
    M.ret (.lst l)
def lc2 (vs : List Nat) (tg : Tg) (it : Rho → M (List D)) (vs2 : List Nat) (tg2 : Tg) (it2 : Rho → M (List D)) (x : Den) : Den := .ofV fun ρ => do
    let ds ← it ρ
    few ds
    let l ← compM (fun d => noExc (turn vs tg [] none (fun ρ' => do
      let es ← it2 ρ'
      few es
      let r ← compM (fun e => turn vs2 tg2 [] none (fun ρ2 => do
        let y ← x.v ρ2
        M.ret (some y)) ρ' e) es
      M.ret (some r)) ρ d)) ds
    M.ret (.lst l.flatten)
def dc (kk : Bool) (vs : List Nat) (tg : Tg) (it : Rho → M (List D)) (ifs : Dens) (k x : Den) : Den := .ofV fun ρ => do
    let ds ← it ρ
    sized ds
    let l ← compM (fun d => noExc (turn vs tg ifs none (fun ρ' => do
      let z ← k.v ρ'
      let y ← x.v ρ'
      if keyOk kk z then M.ret (some (z, y)) else M.bad) ρ d)) ds
    M.ret (.dct kk (putAll [] l))
def frz (e : Den) : Den := .ofV fun ρ => do
    let x ← e.v ρ
    frzM x
def loc (e : Den) : Den := .ofV fun ρ => do
    let d ← e.v ρ
    locM d
/-- the values of a dict, for a star -/
def vals (e : Den) : Den := .ofV fun ρ => do
    let x ← e.v ρ
    let l ← valsM x
    sized l
    M.ret (.lst l)
end Dn
/-! ### what a for walks -/
namespace Di
def val (e : Den) : Rho → M (List D) := fun ρ => do
  let x ← e.v ρ
  M.some? (itemsOf x)
def range1 (a : Den) : Rho → M (List D) := fun ρ => do
    let x ← a.v ρ
    M.some? (Mp.range1 x)
def range3 (a b c : Den) : Rho → M (List D) := fun ρ => do
    let x ← a.v ρ
    let y ← b.v ρ
    let z ← c.v ρ
    M.some? (Mp.range3 x y z)
def enum (e : Den) : Rho → M (List D) := fun ρ => do
    let x ← e.v ρ
    enumM x
def zip (a b : Den) : Rho → M (List D) := fun ρ => do
    let x ← a.v ρ
    let y ← b.v ρ
    let x ← M.some? (itemsOf x)
    let y ← M.some? (itemsOf y)
    M.ret (zipL x y)
def vals (e : Den) : Rho → M (List D) := fun ρ => do
    let x ← e.v ρ
    valsM x
end Di

/-! ### statements -/
inductive Out | next (ρ : Rho) | ret (d : D) | brk (ρ : Rho) | cont (ρ : Rho)
def setAMu (c f : String) (v : D) : D → M Unit
  | .loc n => fun μ => match μ[n]? with
    | some (some (.obj k l)) => if k = c ∧ l.length < 900 then .ok () (μ.set n (some (.obj k (putS l f v)))) else .bad
    | _ => .bad
  | _ => M.bad
/-- o[k] = v of a content -/
def setIn (k v : D) : D → Option D
  | .dct kk l => if keyOk kk k ∧ l.length < line then some (.dct kk (put l k v)) else none
  | .lst l => match k with
    | .int i => (ixM l.length i).map fun j => .lst (l.set j v)
    | _ => none
  | _ => none
def lstOf : D → Option (List D)
  | .lst l => some l
  | _ => none
def appIn (x : D) : D → Option D
  | .lst l => if l.length < line then some (.lst (l ++ [x])) else none
  | _ => none
def extIn (m : List D) : D → Option D
  | .lst l => if l.length + m.length ≤ line then some (.lst (l ++ m)) else none
  | _ => none
/-- the thing at a reference is changed -/
def change (ρ : Rho) (g : D → Option D) : Q → M Rho
  | .slot i => (match ρ[i]? with
    | some (some (.own d)) => (match g d with
      | some d' => M.ret (ρ.set i (some (.own d')))
      | none => M.bad)
    | _ => M.bad)
  | .val (.loc n) => fun μ => (match μ[n]? with
    | some (some d) => (match g d with
      | some d' => .ok ρ (μ.set n (some d'))
      | none => .bad)
    | _ => .bad)
  | _ => M.bad
def ownOk : D → Bool
  | .lst _ => true
  | .dct _ _ => true
  | _ => false
def forM (ρ : Rho) (tg : Tg) (b : Rho → M Out) : List D → M Out
  | [] => M.ret (.next ρ)
  | d :: r => do
    let ρ' ← M.some? (assign ρ tg d)
    let o ← b ρ'
    match o with
    | .next ρ2 => forM ρ2 tg b r
    | .cont ρ2 => forM ρ2 tg b r
    | .brk ρ2 => M.ret (.next ρ2)
    | .ret d => M.ret (.ret d)
def whileM (c : Rho → M Bool) (b : Rho → M Out) : Nat → Rho → M Out
  | 0, _ => M.bad
  | n + 1, ρ => do
    let k ← c ρ
    if k then do
      let o ← b ρ
      match o with
      | .next ρ2 => whileM c b n ρ2
      | .cont ρ2 => whileM c b n ρ2
      | .brk ρ2 => M.ret (.next ρ2)
      | .ret d => M.ret (.ret d)
    else M.ret (.next ρ)
/-- the things of a def's own that a walk must leave as they are -/
def frzSlot (ρ : Rho) (i : Nat) : Option Rho := match ρ[i]? with
  | some (some (.own (.lst l))) => some (ρ.set i (some (.dat (.lst l))))
  | some (some (.own (.dct true l))) => some (ρ.set i (some (.dat (.dct true l))))
  | _ => none
/-- a field that holds a dict of atoms: the dict stands still from now on -/
def frzA (f : String) : D → Mu → Option Mu
  | .loc n, μ => match μ[n]? with
    | some (some (.obj c l)) => (match l.lookup f with
      | some (.loc m) => (match (μ[m]? : Option (Option D)) with
        | some (some (.dct false d)) => if m = n then none else some ((μ.set m none).set n (some (.obj c (putS l f (.dct false d)))))
        | _ => none)
      | _ => none)
    | _ => none
  | _, _ => none
def ownL {α : Type} (ρ : Rho) (i : Nat) (f : List D → M α) : M α := match ρ[i]? with
  | some (some (.own (.lst l))) => f l
  | _ => M.bad
abbrev Sm := Rho → M Out
namespace Dm
def never : Sm := fun _ => M.bad
def asg (tg : Tg) (e : Den) : Sm := fun ρ => do
    let d ← e.v ρ
    let ρ' ← M.some? (assign ρ tg d)
    M.ret (.next ρ')
def asgs (is : List Nat) (es : Dens) : Sm := fun ρ => do
    let ds ← evs ρ es
    let ρ' ← M.some? (setAll ρ is ds)
    M.ret (.next ρ')
def own (i : Nat) (e : Den) : Sm := fun ρ => do
    let d ← e.v ρ
    if ownOk d then M.ret (.next (ρ.set i (some (.own d)))) else M.bad
def setA (c : String) (e : Den) (f : String) (v : Den) : Sm := fun ρ => do
    let y ← v.v ρ
    let x ← e.v ρ
    setAMu c f y x
    M.ret (.next ρ)
def setI (e k v : Den) : Sm := fun ρ => do
    let y ← v.v ρ
    let x ← e.q ρ
    let z ← k.v ρ
    let ρ' ← change ρ (setIn z y) x
    M.ret (.next ρ')
def app (i : Nat) (x : Den) : Sm := fun ρ => ownL ρ i fun _ => do
    let y ← x.v ρ
    let ρ' ← change ρ (appIn y) (.slot i)
    M.ret (.next ρ')
def ext (i : Nat) (x : Den) : Sm := fun ρ => ownL ρ i fun _ => do
    let y ← x.v ρ
    let l ← M.some? (lstOf y)
    let ρ' ← change ρ (extIn l) (.slot i)
    M.ret (.next ρ')
def drop (e : Den) : Sm := fun ρ => do
    let _ ← e.v ρ
    M.ret (.next ρ)
def ret (e : Den) : Sm := fun ρ => do
    let d ← e.v ρ
    M.ret (.ret d)
def retN : Sm := fun _ => M.ret (.ret .non)
def if_ (c : Den) (a b : Sm) : Sm := fun ρ => do
    let k ← c.t ρ
    if k then a ρ else b ρ
def for_ (tg : Tg) (it : Rho → M (List D)) (b : Sm) : Sm := fun ρ => do
    let ds ← it ρ
    forM ρ tg b ds
def while_ (fuel : Nat) (c : Den) (b : Sm) : Sm := fun ρ => whileM c.t b fuel ρ
/-- raise C(v), C an exception whose __init__ stores its one argument -/
def raise (c f : String) (a : Den) : Sm := fun ρ => do
    let v ← a.v ρ
    M.throw ⟨c, [(f, v)]⟩
def brk : Sm := fun ρ => M.ret (.brk ρ)
def frz (i : Nat) : Sm := fun ρ => do
    let ρ' ← M.some? (frzSlot ρ i)
    M.ret (.next ρ')
def frzF (i : Nat) (f : String) : Sm := fun ρ μ => match ρ[i]? with
  | some (some (.dat d)) => (match frzA f d μ with
    | some μ' => .ok (.next ρ) μ'
    | none => .bad)
  | _ => .bad
/-- try: b except c as e: h, h of what the exception holds -/
def try_ (c : String) (b : Sm) (h : List (String × D) → Sm) : Sm := fun ρ μ => match b ρ μ with
  | .ok o μ' => .ok o μ'
  | .exc x μ' => if x.c = c then h x.l ρ μ' else .bad
  | .bad => .bad
/-- return [w, e.number]; return e.number > n -/
def told (w : Str) : List (String × D) → Sm
  | [("number", v)] => fun _ => M.ret (.ret (.lst [.str w, v]))
  | _ => fun _ => M.bad
def above (n : Int) : List (String × D) → Sm
  | [("number", .int i)] => fun _ => M.ret (.ret (.bl (decide (n < i))))
  | _ => fun _ => M.bad
def nil : Sm := fun ρ => M.ret (.next ρ)
def cons (s r : Sm) : Sm := fun ρ => do
    let o ← s ρ
    match o with
    | .next ρ' => r ρ'
    | o => M.ret o
def seq : List Sm → Sm
  | [] => nil
  | [s] => s
  | s :: r => cons s (seq r)
end Dm
/-! ### defs -/
def retOf : Out → M D
  | .next _ => M.ret .non
  | .ret d => M.ret d
  | _ => M.bad
def start (n : Nat) (ds : List D) : Rho := ds.map (fun d => some (.dat d)) ++ List.replicate (n - ds.length) none
/-- a def with so many parameters and slots -/
def fnOf (pars slots : Nat) (body : Sm) : Fn := fun ds => if ds.length = pars then do
    let o ← body (start slots ds)
    retOf o
  else M.bad
end Mp

/-! How the values of Mp.Sem stand in the abstract heap of the hand layer (own work). -/
namespace Mp
open PySem PySem.Spec PyProof.Rows L2

/-- the ghost: what stands still for good, and where the places of the store are -/
structure Wd where
  S : Hp
  ι : List Addr
/-- where the text's own classes stand; T: tables of code objects, with the name of the code objects -/
structure CA where
  at_ : String → Addr
  T : List (Addr × Str)
instance : CoeFun CA fun _ => String → Addr := ⟨CA.at_⟩

/-- a dict by its one object -/
def rawO (a : Addr) (o : Obj) : HO := .ext fun h => h.get? a = some o

/- a key, of the library's kind of nested keys -/
mutual
def toKey : D → NestedKey
  | .non => .none
  | .bl b => .num (b2i b)
  | .int i => .num i
  | .str s => .text s
  | .tup l => .tup (toKeys l)
  | _ => .none
def toKeys : List D → List NestedKey
  | [] => []
  | d :: r => toKey d :: toKeys r
end

/-- a dict whose keys are tuples, by its one object -/
structure NDict (l : List (D × D)) (a : Addr) (o : Obj) (es : Array DictEntry) (ep : Nat) : Prop where
  sm : (a == sysModules) = false
  len : l.length ≤ sizeLine
  ex : o.ExactDict
  dat : o.data = .dict es ep
  keys : (l.all fun p => keyOk true p.1) = true
  nd : (l.map fun p => toKey p.1).Nodup
section
variable (w : World) (ca : CA)
mutual
def Rep (W : Wd) : D → V → Prop
  | .non, v => v = .non
  | .bl b, v => v = .bl b
  | .int i, v => v = .int i
  | .str s, v => v = .str s
  | .tup l, v => ∃ a vs, v = .ref a ∧ W.S a = some (.tup vs) ∧ Reps W l vs
  | .lst l, v => ∃ a vs, v = .ref a ∧ W.S a = some (.lst vs) ∧ Reps W l vs
  | .dct false l, v => ∃ a od kvs, v = .ref a ∧ W.S a = some (.frz od (.dK kvs)) ∧ RepK W l kvs
  | .dct true l, v => ∃ a o es ep, v = .ref a ∧ W.S a = some (rawO a o) ∧ NDict l a o es ep ∧ RepN W l es.toList
  | .obj c l, v => ∃ a dx fs, v = .ref a ∧ W.S a = some (.ins (ca c) dx fs) ∧ RepF W l fs
  | .loc n, v => ∃ a, v = .ref a ∧ W.ι[n]? = some a
  | .scr l, v => ∃ a, v = .ref a ∧ (W.S a = some (.lst (l.map V.int)) ∨ ∃ o, W.S a = some (.frz o (.lst (l.map V.int))))
def Reps (W : Wd) : List D → List V → Prop
  | [], vs => vs = []
  | d :: r, vs => ∃ v q, vs = v :: q ∧ Rep W d v ∧ Reps W r q
def RepK (W : Wd) : List (D × D) → List (Key × V) → Prop
  | [], vs => vs = []
  | p :: r, vs => ∃ x v q, vs = (x, v) :: q ∧ Rep W p.1 (kV x) ∧ Rep W p.2 v ∧ RepK W r q
def RepN (W : Wd) : List (D × D) → List DictEntry → Prop
  | [], es => es = []
  | p :: r, es => ∃ b v u q, es = ⟨(toKey p.1).hash w, .ref b, u⟩ :: q ∧ Rep W p.1 (.ref b) ∧ RelV v u ∧ Rep W p.2 v ∧ RepN W r q
def RepF (W : Wd) : List (String × D) → List (Str × V) → Prop
  | [], vs => vs = []
  | p :: r, vs => ∃ v q, vs = (Str.ofString p.1, v) :: q ∧ Rep W p.2 v ∧ RepF W r q
end

/-- a content as it stands at a, in the heap T -/
def At (W : Wd) (T : Hp) (a : Addr) : D → Prop
  | .lst l => ∃ vs, T a = some (.lst vs) ∧ Reps w ca W l vs
  | .dct false l => ∃ kvs, T a = some (.dK kvs) ∧ RepK w ca W l kvs
  | .dct true l => ∃ o es ep, T a = some (rawO a o) ∧ NDict l a o es ep ∧ RepN w ca W l es.toList
  | .obj c l => ∃ dx fs, T a = some (.ins (ca c) dx fs) ∧ RepF w ca W l fs
  | _ => False
end

/-- the one ghost goes on from the other -/
structure Wd.le (W W' : Wd) : Prop where
  s : ∀ a o, W.S a = some o → W'.S a = some o
  i : ∃ t, W'.ι = W.ι ++ t
theorem Wd.le.refl (W : Wd) : W.le W := ⟨fun _ _ h => h, ⟨[], by simp⟩⟩
theorem Wd.le.trans {A B C : Wd} (h : A.le B) (g : B.le C) : A.le C :=
  ⟨fun a o e => g.s a o (h.s a o e), by
    obtain ⟨t, e⟩ := h.i
    obtain ⟨u, f⟩ := g.i
    exact ⟨t ++ u, by rw [f, e, List.append_assoc]⟩⟩
theorem Wd.le.ix {W W' : Wd} (h : W.le W') {n : Nat} {a : Addr} (e : W.ι[n]? = some a) : W'.ι[n]? = some a := by
  obtain ⟨t, q⟩ := h.i
  rw [q, List.getElem?_append_left (List.getElem?_eq_some_iff.mp e).1]
  exact e

section
variable {w : World} {ca : CA} {W W' : Wd}
mutual
theorem Rep.mono (h : W.le W') : ∀ (d : D) (v : V), Rep w ca W d v → Rep w ca W' d v
  | .non, v, r => r
  | .bl _, v, r => r
  | .int _, v, r => r
  | .str _, v, r => r
  | .tup l, v, r => by
    obtain ⟨a, vs, e, s, q⟩ := r
    exact ⟨a, vs, e, h.s _ _ s, Reps.mono h l vs q⟩
  | .lst l, v, r => by
    obtain ⟨a, vs, e, s, q⟩ := r
    exact ⟨a, vs, e, h.s _ _ s, Reps.mono h l vs q⟩
  | .dct false l, v, r => by
    obtain ⟨a, od, vs, e, s, q⟩ := r
    exact ⟨a, od, vs, e, h.s _ _ s, RepK.mono h l vs q⟩
  | .dct true l, v, r => by
    obtain ⟨a, o, es, ep, e, s, c, q⟩ := r
    exact ⟨a, o, es, ep, e, h.s _ _ s, c, RepN.mono h l _ q⟩
  | .obj c l, v, r => by
    obtain ⟨a, dx, fs, e, s, q⟩ := r
    exact ⟨a, dx, fs, e, h.s _ _ s, RepF.mono h l fs q⟩
  | .loc n, v, r => by
    obtain ⟨a, e, s⟩ := r
    exact ⟨a, e, h.ix s⟩
  | .scr l, v, r => by
    obtain ⟨a, e, s⟩ := r
    exact ⟨a, e, s.imp (h.s _ _) fun ⟨o, q⟩ => ⟨o, h.s _ _ q⟩⟩
theorem Reps.mono (h : W.le W') : ∀ (l : List D) (vs : List V), Reps w ca W l vs → Reps w ca W' l vs
  | [], _, r => r
  | d :: l, _, r => by
    obtain ⟨v, q, e, a, b⟩ := r
    exact ⟨v, q, e, Rep.mono h d v a, Reps.mono h l q b⟩
theorem RepK.mono (h : W.le W') : ∀ (l : List (D × D)) (vs : List (Key × V)), RepK w ca W l vs → RepK w ca W' l vs
  | [], _, r => r
  | (k, d) :: l, _, r => by
    obtain ⟨x, v, q, e, a, b, c⟩ := r
    exact ⟨x, v, q, e, Rep.mono h k _ a, Rep.mono h d v b, RepK.mono h l q c⟩
theorem RepN.mono (h : W.le W') : ∀ (l : List (D × D)) (vs : List DictEntry), RepN w ca W l vs → RepN w ca W' l vs
  | [], _, r => r
  | (k, d) :: l, _, r => by
    obtain ⟨b, v, u, q, e, x, y, z, t⟩ := r
    exact ⟨b, v, u, q, e, Rep.mono h k _ x, y, Rep.mono h d v z, RepN.mono h l q t⟩
theorem RepF.mono (h : W.le W') : ∀ (l : List (String × D)) (vs : List (Str × V)), RepF w ca W l vs → RepF w ca W' l vs
  | [], _, r => r
  | (f, d) :: l, _, r => by
    obtain ⟨v, q, e, a, b⟩ := r
    exact ⟨v, q, e, Rep.mono h d v a, RepF.mono h l q b⟩
end
theorem At.mono {T T' : Hp} {a : Addr} (h : W.le W') (ht : ∀ o, T a = some o → T' a = some o) : ∀ d : D, At w ca W T a d → At w ca W' T' a d
  | .tup _, z => z.elim
  | .lst l, ⟨vs, s, q⟩ => ⟨vs, ht _ s, Reps.mono h l vs q⟩
  | .dct false l, ⟨vs, s, q⟩ => ⟨vs, ht _ s, RepK.mono h l vs q⟩
  | .dct true l, ⟨o, es, ep, s, c, q⟩ => ⟨o, es, ep, ht _ s, c, RepN.mono h l _ q⟩
  | .obj c l, ⟨dx, fs, s, q⟩ => ⟨dx, fs, ht _ s, RepF.mono h l fs q⟩
  | .non, z => z.elim
  | .bl _, z => z.elim
  | .int _, z => z.elim
  | .str _, z => z.elim
  | .loc _, z => z.elim
  | .scr _, z => z.elim
/-- a container that stands still is a value -/
theorem At.rep {a : Addr} : ∀ {d : D}, (∀ l, d ≠ .dct false l) → At w ca W W.S a d → Rep w ca W d (.ref a)
  | .tup _, _, z => z.elim
  | .lst l, _, ⟨vs, s, q⟩ => ⟨a, vs, rfl, s, q⟩
  | .dct false l, n, _ => (n l rfl).elim
  | .dct true l, _, ⟨o, es, ep, s, c, q⟩ => ⟨a, o, es, ep, rfl, s, c, q⟩
  | .obj c l, _, ⟨dx, fs, s, q⟩ => ⟨a, dx, fs, rfl, s, q⟩
  | .non, _, z => z.elim
  | .bl _, _, z => z.elim
  | .int _, _, z => z.elim
  | .str _, _, z => z.elim
  | .loc _, _, z => z.elim
  | .scr _, _, z => z.elim
theorem At.ex {T : Hp} {a : Addr} {d : D} (h : At w ca W T a d) : ∃ o, T a = some o := by
  cases d with
  | dct k l => cases k with
    | false => obtain ⟨vs, s, _⟩ := h; exact ⟨_, s⟩
    | true => obtain ⟨o, es, ep, s, _⟩ := h; exact ⟨_, s⟩
  | lst l => obtain ⟨vs, s, _⟩ := h; exact ⟨_, s⟩
  | obj c l => obtain ⟨dx, fs, s, _⟩ := h; exact ⟨_, s⟩
  | _ => exact h.elim
theorem Reps.length : ∀ {l : List D} {vs : List V}, Reps w ca W l vs → vs.length = l.length
  | [], _, h => by have h : _ = [] := h; subst h; rfl
  | d :: r, _, h => by
    obtain ⟨v, q, e, _, b⟩ := h
    subst e
    simp [Reps.length b]
theorem RepK.length : ∀ {l : List (D × D)} {vs : List (Key × V)}, RepK w ca W l vs → vs.length = l.length
  | [], _, h => by have h : _ = [] := h; subst h; rfl
  | d :: r, _, h => by
    obtain ⟨x, v, q, e, _, _, b⟩ := h
    subst e
    simp [RepK.length b]
theorem Reps.append : ∀ {l m : List D} {vs us : List V}, Reps w ca W l vs → Reps w ca W m us → Reps w ca W (l ++ m) (vs ++ us)
  | [], _, _, _, h, g => by have h : _ = [] := h; subst h; exact g
  | d :: r, _, _, _, h, g => by
    obtain ⟨v, q, e, a, b⟩ := h
    subst e
    exact ⟨v, _, rfl, a, Reps.append b g⟩
theorem Reps.get : ∀ {l : List D} {vs : List V} {i : Nat} {d : D}, Reps w ca W l vs → l[i]? = some d → ∃ v, vs[i]? = some v ∧ Rep w ca W d v
  | [], _, _, _, _, e => by simp at e
  | d :: r, _, 0, x, h, e => by
    obtain ⟨v, q, e2, a, b⟩ := h
    subst e2
    simp at e
    subst e
    exact ⟨v, rfl, a⟩
  | d :: r, _, i + 1, x, h, e => by
    obtain ⟨v, q, e2, a, b⟩ := h
    subst e2
    obtain ⟨u, p1, p2⟩ := Reps.get (i := i) (d := x) b (by simpa using e)
    exact ⟨u, by simpa using p1, p2⟩
end

/-! ### the state -/
/-- what stands beside: the tables of the code objects that make lambdas -/
def TbAt (T : List (Addr × Str)) (W : Wd) (H : Hp) : Prop := ∀ p ∈ T, ∃ ps : Array Value, H p.1 = some (.tbl ps) ∧ TriplesOk ps.toList ∧ (∀ (pos : Pos) (cv : Value), codeAmong pos ps.toList = some cv → ∃ c, cv = .ref c ∧ W.S c = some (LamX.CodeO c p.2)) ∧ W.S p.1 = none ∧ p.1 ∉ W.ι
theorem TbAt.step {T : List (Addr × Str)} {W W' : Wd} {H H' : Hp} (t : TbAt T W H) (hs : ∀ c o, W.S c = some o → W'.S c = some o)
    (hk : ∀ a ps, H a = some (.tbl ps) → W.S a = none → a ∉ W.ι → H' a = some (.tbl ps) ∧ W'.S a = none ∧ a ∉ W'.ι) : TbAt T W' H' := fun p hp => by
  obtain ⟨ps, h1, h2, h3, h4, h5⟩ := t p hp
  obtain ⟨k1, k2, k3⟩ := hk _ _ h1 h4 h5
  exact ⟨ps, k1, h2, fun pos cv hc => let ⟨c, e1, e2⟩ := h3 pos cv hc; ⟨c, e1, hs _ _ e2⟩, k2, k3⟩
/-- the store and its ghost in the heap -/
structure GS (w : World) (ca : CA) (W : Wd) (μ : Mu) (H : Hp) : Prop where
  sub : ∀ a o, W.S a = some o → H a = some o
  len : W.ι.length = μ.length
  nd : W.ι.Nodup
  lv : ∀ (n : Nat) (d : D) (a : Addr), μ[n]? = some (some d) → W.ι[n]? = some a → W.S a = none ∧ At w ca W H a d
  inh : ∀ a ∈ W.ι, ∃ o, H a = some o
  tb : TbAt ca.T W H
/-- all else stands -/
structure Fr (W : Wd) (H : Hp) (W' : Wd) (H' : Hp) : Prop where
  le : W.le W'
  other : ∀ a o, H a = some o → W.S a = none → a ∉ W.ι → W'.S a = none ∧ a ∉ W'.ι ∧ (H' a = some o ∨ ∃ ps more, o = .tbl ps ∧ H' a = some (.tbl (ps ++ more)))
theorem Fr.refl (W : Wd) (H : Hp) : Fr W H W H := ⟨Wd.le.refl W, fun _ _ e s n => ⟨s, n, .inl e⟩⟩
theorem Fr.trans {W W1 W2 : Wd} {H H1 H2 : Hp} (a : Fr W H W1 H1) (b : Fr W1 H1 W2 H2) : Fr W H W2 H2 :=
  ⟨a.le.trans b.le, fun x o e s n => by
    obtain ⟨s1, n1, h1⟩ := a.other x o e s n
    rcases h1 with h1 | ⟨ps, more, rfl, h1⟩
    · exact b.other x o h1 s1 n1
    · obtain ⟨s2, n2, h2⟩ := b.other x _ h1 s1 n1
      refine ⟨s2, n2, .inr ⟨ps, ?_⟩⟩
      rcases h2 with h2 | ⟨qs, more2, e2, h2⟩
      · exact ⟨more, rfl, h2⟩
      · injection e2 with e2
        subst e2
        exact ⟨more ++ more2, rfl, by rw [h2, Array.append_assoc]⟩⟩

/-- what a slot holds -/
def SlotAt (w : World) (ca : CA) (W : Wd) (H : Hp) : O → V → Prop
  | .dat d, v => Rep w ca W d v
  | .own d, v => ∃ a, v = .ref a ∧ W.S a = none ∧ a ∉ W.ι ∧ At w ca W H a d
structure SR (w : World) (ca : CA) (W : Wd) (H : Hp) (σ : L2.St) (ρ : Rho) : Prop where
  len : σ.length = ρ.length
  at_ : ∀ (i : Nat) (o : O), ρ[i]? = some (some o) → ∃ v, σ[i]? = some (some v) ∧ SlotAt w ca W H o v
  apart : ∀ (i j : Nat) (d e : D) (v : V), ρ[i]? = some (some (.own d)) → ρ[j]? = some (some (.own e)) → σ[i]? = some (some v) → σ[j]? = some (some v) → i = j
section
variable {w : World} {ca : CA} {W W' : Wd} {H H' : Hp}
theorem At.notTbl {T : Hp} {a : Addr} {d : D} {ps : Array Value} (h : At w ca W T a d) (e : T a = some (.tbl ps)) : False := by
  cases d with
  | dct k l => cases k with
    | false => obtain ⟨vs, s, _⟩ := h; rw [s] at e; cases e
    | true => obtain ⟨o, es, ep, s, _⟩ := h; rw [s] at e; cases e
  | lst l => obtain ⟨vs, s, _⟩ := h; rw [s] at e; cases e
  | obj c l => obtain ⟨dx, fs, s, _⟩ := h; rw [s] at e; cases e
  | _ => exact h.elim
theorem SlotAt.fr (f : Fr W H W' H') : ∀ {o : O} {v : V}, SlotAt w ca W H o v → SlotAt w ca W' H' o v
  | .dat d, v, r => Rep.mono f.le d v r
  | .own d, v, ⟨a, e, s, n, q⟩ => by
    obtain ⟨o, ho⟩ := q.ex
    obtain ⟨s', n', h'⟩ := f.other a o ho s n
    rcases h' with h' | ⟨ps, more, e2, _⟩
    · exact ⟨a, e, s', n', At.mono f.le (fun o2 e2 => by rw [ho] at e2; cases e2; exact h') d q⟩
    · subst e2
      exact (q.notTbl ho).elim
theorem SR.fr {σ : L2.St} {ρ : Rho} (r : SR w ca W H σ ρ) (f : Fr W H W' H') : SR w ca W' H' σ ρ :=
  ⟨r.len, fun i o e => by
    obtain ⟨v, h1, h2⟩ := r.at_ i o e
    exact ⟨v, h1, h2.fr f⟩, r.apart⟩

/-! ### a new thing is laid -/
def Wd.add (W : Wd) (a : Addr) (o : HO) : Wd := ⟨upd W.S a o, W.ι⟩
def Wd.new (W : Wd) (a : Addr) : Wd := ⟨W.S, W.ι ++ [a]⟩
theorem GS.free {μ : Mu} (g : GS w ca W μ H) {p : Addr} (hp : H p = none) : W.S p = none ∧ p ∉ W.ι := by
  refine ⟨?_, fun m => ?_⟩
  · cases e : W.S p with
    | none => rfl
    | some o => rw [g.sub p o e] at hp; cases hp
  · obtain ⟨o, e⟩ := g.inh p m
    rw [e] at hp; cases hp
theorem Wd.le_add {p : Addr} {o : HO} (h : W.S p = none) : W.le (W.add p o) :=
  ⟨fun a u e => by
    show upd W.S p o a = some u
    rw [upd_ne (fun z => by subst z; rw [h] at e; cases e)]
    exact e, ⟨[], by simp [Wd.add]⟩⟩
theorem Wd.le_new {p : Addr} : W.le (W.new p) := ⟨fun _ _ e => e, ⟨[p], rfl⟩⟩
/-- a new thing that stands still -/
theorem GS.add {μ : Mu} (g : GS w ca W μ H) {p : Addr} {o : HO} (hp : H p = none) : GS w ca (W.add p o) μ (upd H p o) := by
  obtain ⟨hs, hi⟩ := g.free hp
  refine ⟨fun a u e => ?_, g.len, g.nd, fun n d a e1 e2 => ?_, fun a m => ?_, g.tb.step (Wd.le_add hs).s fun a ps e s m => ?_⟩
  · have e : upd W.S p o a = some u := e
    by_cases z : a = p
    · subst z; rw [upd_same] at e ⊢; exact e
    · rw [upd_ne z] at e ⊢; exact g.sub a u e
  · obtain ⟨s, q⟩ := g.lv n d a e1 e2
    have z : a ≠ p := fun z => hi (z ▸ List.mem_of_getElem? e2)
    refine ⟨?_, At.mono (Wd.le_add hs) (fun u e => by rw [upd_ne z]; exact e) d q⟩
    show upd W.S p o a = none
    rw [upd_ne z]; exact s
  · have z : a ≠ p := fun z => hi (z ▸ m)
    obtain ⟨u, e⟩ := g.inh a m
    exact ⟨u, by rw [upd_ne z]; exact e⟩
  · have z : a ≠ p := fun z => by subst z; rw [e] at hp; cases hp
    refine ⟨by rw [upd_ne z]; exact e, ?_, m⟩
    show upd W.S p o a = none
    rw [upd_ne z]; exact s
theorem Fr.add {μ : Mu} (g : GS w ca W μ H) {p : Addr} {o : HO} (hp : H p = none) : Fr W H (W.add p o) (upd H p o) := by
  obtain ⟨hs, hi⟩ := g.free hp
  refine ⟨Wd.le_add hs, fun a u e s n => ?_⟩
  have z : a ≠ p := fun z => by subst z; rw [e] at hp; cases hp
  refine ⟨?_, n, .inl (by rw [upd_ne z]; exact e)⟩
  show upd W.S p o a = none
  rw [upd_ne z]; exact s
/-- a new thing that may be changed -/
theorem GS.new {μ : Mu} (g : GS w ca W μ H) {p : Addr} {o : HO} {d : D} (hp : H p = none) (h : At w ca (W.new p) (upd H p o) p d) : GS w ca (W.new p) (μ ++ [some d]) (upd H p o) := by
  obtain ⟨hs, hi⟩ := g.free hp
  have up : ∀ a u, H a = some u → upd H p o a = some u := fun a u e => by
    rw [upd_ne (fun z => by subst z; rw [e] at hp; cases hp)]; exact e
  refine ⟨fun a u e => up a u (g.sub a u e), by simp [Wd.new, g.len], ?_, fun n e a e1 e2 => ?_, fun a m => ?_, g.tb.step (fun _ _ e => e) fun a ps e s m => ⟨up a _ e, s, fun m2 => ?_⟩⟩
  · show (W.ι ++ [p]).Nodup
    rw [List.nodup_append]
    exact ⟨g.nd, by simp, fun a m b q => by simp at q; subst q; exact fun z => hi (z ▸ m)⟩
  · have e2 : (W.ι ++ [p])[n]? = some a := e2
    by_cases z : n < μ.length
    · rw [List.getElem?_append_left z] at e1
      rw [List.getElem?_append_left (by rw [g.len]; exact z)] at e2
      obtain ⟨s, q⟩ := g.lv n e a e1 e2
      exact ⟨s, At.mono Wd.le_new (fun u q => up a u q) e q⟩
    · have hn : n = μ.length := by
        have := (List.getElem?_eq_some_iff.mp e1).1
        simp at this
        omega
      subst hn
      rw [List.getElem?_concat_length] at e1
      rw [← g.len, List.getElem?_concat_length] at e2
      cases e1; cases e2
      exact ⟨hs, h⟩
  · have m : a ∈ W.ι ++ [p] := m
    rcases List.mem_append.mp m with m | m
    · obtain ⟨u, e⟩ := g.inh a m
      exact ⟨u, up a u e⟩
    · simp at m; subst m
      exact ⟨o, upd_same⟩
  · have m2 : a ∈ W.ι ++ [p] := m2
    rcases List.mem_append.mp m2 with m2 | m2
    · exact m m2
    · simp at m2; subst m2; rw [e] at hp; cases hp
theorem Fr.new {μ : Mu} (g : GS w ca W μ H) {p : Addr} {o : HO} (hp : H p = none) : Fr W H (W.new p) (upd H p o) := by
  obtain ⟨hs, hi⟩ := g.free hp
  refine ⟨Wd.le_new, fun a u e s n => ?_⟩
  have z : a ≠ p := fun z => by subst z; rw [e] at hp; cases hp
  refine ⟨s, fun m => ?_, .inl (by rw [upd_ne z]; exact e)⟩
  have m : a ∈ W.ι ++ [p] := m
  rcases List.mem_append.mp m with m | m
  · exact n m
  · simp at m; exact z m
/-- what was laid beside does not matter -/
theorem GS.beside {μ : Mu} (g : GS w ca W μ H) {p : Addr} {o : HO} (hp : H p = none) : GS w ca W μ (upd H p o) := by
  have up : ∀ a u, H a = some u → upd H p o a = some u := fun a u e => by
    rw [upd_ne (fun z => by subst z; rw [e] at hp; cases hp)]; exact e
  exact ⟨fun a u e => up a u (g.sub a u e), g.len, g.nd, fun n d a e1 e2 => ⟨(g.lv n d a e1 e2).1, At.mono (Wd.le.refl W) (fun u q => up a u q) d (g.lv n d a e1 e2).2⟩, fun a m => let ⟨u, e⟩ := g.inh a m; ⟨u, up a u e⟩, g.tb.step (fun _ _ e => e) fun a ps e s m => ⟨up a _ e, s, m⟩⟩
theorem Fr.beside {p : Addr} {o : HO} (hp : H p = none) : Fr W H W (upd H p o) :=
  ⟨Wd.le.refl W, fun a u e s n => ⟨s, n, .inl (by rw [upd_ne (fun z => by subst z; rw [e] at hp; cases hp)]; exact e)⟩⟩
/-- a thing that may be changed is changed -/
theorem GS.write {μ : Mu} (g : GS w ca W μ H) {n : Nat} {a : Addr} {o : HO} {d e : D} (h1 : μ[n]? = some (some e)) (h2 : W.ι[n]? = some a) (h : At w ca W (upd H a o) a d) : GS w ca W (μ.set n (some d)) (upd H a o) := by
  obtain ⟨hs, _⟩ := g.lv n e a h1 h2
  have hn : n < μ.length := (List.getElem?_eq_some_iff.mp h1).1
  refine ⟨fun b u q => ?_, by rw [List.length_set]; exact g.len, g.nd, fun m f b q1 q2 => ?_, fun b m => ?_, g.tb.step (fun _ _ e => e) fun b ps e s m => ⟨by rw [upd_ne (fun z => by subst z; exact m (List.mem_of_getElem? h2))]; exact e, s, m⟩⟩
  · rw [upd_ne (fun z => by subst z; rw [hs] at q; cases q)]
    exact g.sub b u q
  · by_cases z : n = m
    · subst z
      rw [List.getElem?_set_self hn] at q1
      rw [h2] at q2
      cases q1; cases q2
      exact ⟨hs, h⟩
    · rw [List.getElem?_set_ne z] at q1
      obtain ⟨s, q⟩ := g.lv m f b q1 q2
      have zb : b ≠ a := fun zb => by
        subst zb
        exact z ((List.getElem?_inj (List.getElem?_eq_some_iff.mp h2).1 g.nd).mp (h2.trans q2.symm))
      exact ⟨s, At.mono (Wd.le.refl W) (fun u q => by rw [upd_ne zb]; exact q) f q⟩
  · by_cases z : b = a
    · subst z; exact ⟨o, upd_same⟩
    · obtain ⟨u, q⟩ := g.inh b m
      exact ⟨u, by rw [upd_ne z]; exact q⟩
theorem Fr.write {n : Nat} {a : Addr} {o : HO} (h2 : W.ι[n]? = some a) : Fr W H W (upd H a o) :=
  ⟨Wd.le.refl W, fun b u e s m => ⟨s, m, .inl (by rw [upd_ne (fun z => by subst z; exact m (List.mem_of_getElem? h2))]; exact e)⟩⟩
/-- a thing that may be changed is not changed any more -/
theorem GS.still {μ : Mu} (g : GS w ca W μ H) {n : Nat} {a : Addr} {d : D} {o o' : HO} (h1 : μ[n]? = some (some d)) (h2 : W.ι[n]? = some a) (ho : H a = some o) :
    GS w ca (W.add a o') (μ.set n none) (upd H a o') ∧ Fr W H (W.add a o') (upd H a o') := by
  obtain ⟨hs, q⟩ := g.lv n d a h1 h2
  have le : W.le (W.add a o') := Wd.le_add hs
  refine ⟨⟨fun b u e => ?_, by rw [List.length_set]; exact g.len, g.nd, fun m f b q1 q2 => ?_, fun b m => ?_, g.tb.step le.s fun b ps e s m => ?_⟩, ⟨le, fun b u e s m => ?_⟩⟩
  · have e : upd W.S a o' b = some u := e
    by_cases z : b = a
    · subst z; rw [upd_same] at e ⊢; exact e
    · rw [upd_ne z] at e ⊢; exact g.sub b u e
  · by_cases z : n = m
    · subst z
      rw [List.getElem?_set_self (List.getElem?_eq_some_iff.mp h1).1] at q1
      cases q1
    · rw [List.getElem?_set_ne z] at q1
      obtain ⟨s, q⟩ := g.lv m f b q1 q2
      have zb : b ≠ a := fun zb => by
        subst zb
        exact z ((List.getElem?_inj (List.getElem?_eq_some_iff.mp h2).1 g.nd).mp (h2.trans q2.symm))
      refine ⟨?_, At.mono le (fun u q => by rw [upd_ne zb]; exact q) f q⟩
      show upd W.S a o' b = none
      rw [upd_ne zb]; exact s
  · by_cases z : b = a
    · subst z; exact ⟨o', upd_same⟩
    · obtain ⟨u, q⟩ := g.inh b m
      exact ⟨u, by rw [upd_ne z]; exact q⟩
  · have zb : b ≠ a := fun z => by subst z; exact m (List.mem_of_getElem? h2)
    refine ⟨by rw [upd_ne zb]; exact e, ?_, m⟩
    show upd W.S a o' b = none
    rw [upd_ne zb]; exact s
  · have zb : b ≠ a := fun z => by subst z; exact m (List.mem_of_getElem? h2)
    refine ⟨?_, m, .inl (by rw [upd_ne zb]; exact e)⟩
    show upd W.S a o' b = none
    rw [upd_ne zb]; exact s
theorem upd_id {a : Addr} {o : HO} (h : H a = some o) : upd H a o = H := by
  funext b
  by_cases z : b = a
  · subst z; rw [upd_same, h]
  · rw [upd_ne z]
theorem GS.freeze {μ : Mu} (g : GS w ca W μ H) {n : Nat} {a : Addr} {d : D} (nd : ∀ l, d ≠ .dct false l) (h1 : μ[n]? = some (some d)) (h2 : W.ι[n]? = some a) :
    ∃ o, H a = some o ∧ GS w ca (W.add a o) (μ.set n none) H ∧ Fr W H (W.add a o) H ∧ Rep w ca (W.add a o) d (.ref a) := by
  obtain ⟨hs, q⟩ := g.lv n d a h1 h2
  obtain ⟨o, ho⟩ := q.ex
  obtain ⟨a1, a2⟩ := g.still (o' := o) h1 h2 ho
  rw [upd_id ho] at a1 a2
  refine ⟨o, ho, a1, a2, At.rep nd (At.mono (Wd.le_add hs) (fun u e => ?_) d q)⟩
  show upd W.S a o a = some u
  rw [upd_same, ← ho]; exact e
/-- .. a dict of atoms: its object is locked -/
theorem GS.freezeD {μ : Mu} (g : GS w ca W μ H) {n : Nat} {a : Addr} {l : List (D × D)} (h1 : μ[n]? = some (some (.dct false l))) (h2 : W.ι[n]? = some a) :
    ∃ kvs, H a = some (.dK kvs) ∧ ∀ od, GS w ca (W.add a (.frz od (.dK kvs))) (μ.set n none) (upd H a (.frz od (.dK kvs))) ∧ Fr W H (W.add a (.frz od (.dK kvs))) (upd H a (.frz od (.dK kvs))) ∧ Rep w ca (W.add a (.frz od (.dK kvs))) (.dct false l) (.ref a) := by
  obtain ⟨hs, kvs, e, r⟩ := g.lv n _ a h1 h2
  refine ⟨kvs, e, fun od => ?_⟩
  obtain ⟨a1, a2⟩ := g.still (o' := .frz od (.dK kvs)) h1 h2 e
  exact ⟨a1, a2, a, od, kvs, rfl, upd_same, RepK.mono (Wd.le_add hs) l kvs r⟩
end
end Mp

/-! What a computation of Mp.Sem asks, as readings of the hand layer (own work). -/
namespace Mp
open PySem PySem.Spec PyProof.Rows L2

/-- an exception as it stands: its class, its own dict -/
def XRep (w : World) (ca : CA) (W : Wd) (H : Hp) (x : Xn) (cls : Value) (d : Addr) : Prop := cls = .ref (ca x.c) ∧ ∃ fs, H d = some (.xd fs) ∧ RepF w ca W x.l fs
section
variable (w : World) (ca : CA) (Wx : WX)
/-- what is wanted behind a computation, from a store, its ghost and its heap -/
def Wp {α : Type} (m : M α) (σ : L2.St) (W : Wd) (μ : Mu) (H : Hp) (P : Wd → Mu → Hp → α → Prop) : Prop := match m μ with
  | .ok a μ' => ∀ W' H', GS w ca W' μ' H' → Fr W H W' H' → P W' μ' H' a
  | .exc x μ' => ∀ W' H' cls d, GS w ca W' μ' H' → Fr W H W' H' → XRep w ca W' H' x cls d → Wx cls (some d) σ H'
  | .bad => False
/-- a reading: from some store -/
def Rd_ {α β : Type} (R : Wd → Hp → L2.St → Rho → α → β → Prop) (m : Rho → M α) (σ : L2.St) (H : Hp) (K : β → Hp → Prop) : Prop :=
  ∃ W ρ μ, GS w ca W μ H ∧ SR w ca W H σ ρ ∧ Wp w ca Wx (m ρ) σ W μ H fun W' _ H' a => ∀ b, R W' H' σ ρ a b → K b H'
/-- a reference as it stands -/
def RepQ (W : Wd) (H : Hp) (σ : L2.St) (ρ : Rho) : Q → V → Prop
  | .val d, v => Rep w ca W d v
  | .slot i, v => σ[i]? = some (some v)
abbrev TV (m : Rho → M D) : TE := Rd_ w ca Wx (fun W _ _ _ d v => Rep w ca W d v) m
abbrev TQ (m : Rho → M Q) : TE := Rd_ w ca Wx (fun W H σ ρ q v => RepQ w ca W H σ ρ q v) m
abbrev TB (m : Rho → M Bool) : TT := Rd_ w ca Wx (fun _ _ _ _ a b => b = a) m
abbrev TL (m : Rho → M (List D)) : TA := Rd_ w ca Wx (fun W _ _ _ l vs => Reps w ca W l vs) m
end
section
variable {w : World} {ca : CA} {Wx : WX} {α β : Type} {σ : L2.St} {W : Wd} {μ : Mu} {H : Hp}
theorem Wp.imp {m : M α} {P P' : Wd → Mu → Hp → α → Prop} (h : Wp w ca Wx m σ W μ H P) (k : ∀ W' μ' H' a, GS w ca W' μ' H' → Fr W H W' H' → P W' μ' H' a → P' W' μ' H' a) : Wp w ca Wx m σ W μ H P' := by
  unfold Wp at *
  cases e : m μ with
  | ok a μ' => rw [e] at h; exact fun W' H' g f => k W' μ' H' a g f (h W' H' g f)
  | exc x μ' => rw [e] at h; exact h
  | bad => rw [e] at h; exact h
theorem Wp.bind {m : M α} {f : α → M β} {P : Wd → Mu → Hp → β → Prop} (h : Wp w ca Wx (m >>= f) σ W μ H P) : Wp w ca Wx m σ W μ H fun W' μ' H' a => Wp w ca Wx (f a) σ W' μ' H' P := by
  have h : Wp w ca Wx (M.bind m f) σ W μ H P := h
  unfold Wp M.bind at h
  unfold Wp
  cases e : m μ with
  | ok a μ' =>
    rw [e] at h
    intro W' H' g fr
    have h : (match f a μ' with
      | .ok a μ' => ∀ W' H', GS w ca W' μ' H' → Fr W H W' H' → P W' μ' H' a
      | .exc x μ' => ∀ W' H' cls d, GS w ca W' μ' H' → Fr W H W' H' → XRep w ca W' H' x cls d → Wx cls (some d) σ H'
      | .bad => False) := h
    show (match f a μ' with
      | .ok a μ' => ∀ W2 H2, GS w ca W2 μ' H2 → Fr W' H' W2 H2 → P W2 μ' H2 a
      | .exc x μ' => ∀ W2 H2 cls d, GS w ca W2 μ' H2 → Fr W' H' W2 H2 → XRep w ca W2 H2 x cls d → Wx cls (some d) σ H2
      | .bad => False)
    cases e2 : f a μ' with
    | ok b μ2 => rw [e2] at h; exact fun W2 H2 g2 f2 => h W2 H2 g2 (fr.trans f2)
    | exc x μ2 => rw [e2] at h; exact fun W2 H2 c d g2 f2 => h W2 H2 c d g2 (fr.trans f2)
    | bad => rw [e2] at h; exact h
  | exc x μ' => rw [e] at h; exact h
  | bad => rw [e] at h; exact h
theorem Wp.ret {a : α} {P : Wd → Mu → Hp → α → Prop} (h : Wp w ca Wx (M.ret a) σ W μ H P) (g : GS w ca W μ H) : P W μ H a := h W H g (Fr.refl W H)
theorem Wp.ret' {a : α} {P : Wd → Mu → Hp → α → Prop} (h : Wp w ca Wx (M.ret a) σ W μ H P) : ∀ W' H', GS w ca W' μ H' → Fr W H W' H' → P W' μ H' a := h
theorem Wp.bad {P : Wd → Mu → Hp → α → Prop} (h : Wp w ca Wx (M.bad : M α) σ W μ H P) : False := h
theorem Wp.some {o : Option α} {P : Wd → Mu → Hp → α → Prop} (h : Wp w ca Wx (M.some? o) σ W μ H P) : ∃ a, o = some a ∧ ∀ W' H', GS w ca W' μ H' → Fr W H W' H' → P W' μ H' a := by
  cases o with
  | none => exact h.elim
  | some a => exact ⟨a, rfl, h⟩
theorem Wp.retB {a : α} {f : α → M β} {P : Wd → Mu → Hp → β → Prop} (h : Wp w ca Wx (M.ret a >>= f) σ W μ H P) : Wp w ca Wx (f a) σ W μ H P := h
theorem Wp.fr {m : M α} {P : Wd → Mu → Hp → α → Prop} {W' : Wd} {H' : Hp} (h : Wp w ca Wx m σ W μ H P) (f : Fr W H W' H') : Wp w ca Wx m σ W' μ H' P := by
  unfold Wp at *
  cases e : m μ with
  | ok a μ' => rw [e] at h; exact fun W2 H2 g2 f2 => h W2 H2 g2 (f.trans f2)
  | exc x μ' => rw [e] at h; exact fun W2 H2 c d g2 f2 => h W2 H2 c d g2 (f.trans f2)
  | bad => rw [e] at h; exact h

/-- a dict as it stands at a, live or locked -/
def CnD (w : World) (ca : CA) (W : Wd) (H : Hp) (a : Addr) : Bool → List (D × D) → Prop
  | false, l => ∃ kvs, Rd H a (.dK kvs) ∧ RepK w ca W l kvs
  | true, l => ∃ o es ep, H a = some (rawO a o) ∧ NDict l a o es ep ∧ RepN w ca W l es.toList
theorem CnD.of_at {a : Addr} : ∀ {k : Bool} {l : List (D × D)}, At w ca W H a (.dct k l) → CnD w ca W H a k l
  | false, _, ⟨kvs, e, r⟩ => ⟨kvs, Rd.of e, r⟩
  | true, _, h => h
/-- a content as it stands: an atom, or a thing at an address -/
def Cn (w : World) (ca : CA) (W : Wd) (H : Hp) : D → V → Prop
  | .non, v => v = .non
  | .bl b, v => v = .bl b
  | .int i, v => v = .int i
  | .str s, v => v = .str s
  | .loc _, _ => False
  | .scr l, v => Rep w ca W (.scr l) v
  | .tup l, v => Rep w ca W (.tup l) v
  | .lst l, v => ∃ a, v = .ref a ∧ At w ca W H a (.lst l)
  | .dct k l, v => ∃ a, v = .ref a ∧ CnD w ca W H a k l
  | .obj c l, v => ∃ a, v = .ref a ∧ At w ca W H a (.obj c l)
theorem Cn.of_at {a : Addr} : ∀ {d : D}, At w ca W H a d → Cn w ca W H d (.ref a)
  | .tup l, z => z.elim
  | .lst l, h => ⟨a, rfl, h⟩
  | .dct k l, h => ⟨a, rfl, CnD.of_at h⟩
  | .obj c l, h => ⟨a, rfl, h⟩
  | .non, z => z.elim
  | .bl _, z => z.elim
  | .int _, z => z.elim
  | .str _, z => z.elim
  | .loc _, z => z.elim
  | .scr _, z => z.elim
theorem Rep.at_ {d : D} {v : V} (g : ∀ a o, W.S a = some o → H a = some o) (r : Rep w ca W d v) (n : ∀ i, d ≠ .loc i) : Cn w ca W H d v := by
  cases d with
  | tup l => exact r
  | lst l => obtain ⟨a, vs, rfl, s, q⟩ := r; exact ⟨a, rfl, vs, g _ _ s, q⟩
  | dct k l => cases k with
    | false => obtain ⟨a, od, vs, rfl, s, q⟩ := r; exact ⟨a, rfl, vs, .inr ⟨od, g _ _ s⟩, q⟩
    | true => obtain ⟨a, o, es, ep, rfl, s, c, q⟩ := r; exact ⟨a, rfl, o, es, ep, g _ _ s, c, q⟩
  | obj c l => obtain ⟨a, dx, fs, rfl, s, q⟩ := r; exact ⟨a, rfl, dx, fs, g _ _ s, q⟩
  | loc i => exact (n i rfl).elim
  | scr _ => exact r
  | non => exact r
  | bl _ => exact r
  | int _ => exact r
  | str _ => exact r
theorem content_ok {d : D} {v : V} {P : Wd → Mu → Hp → D → Prop} (g : GS w ca W μ H) (r : Rep w ca W d v) (h : Wp w ca Wx (content d) σ W μ H P) : ∃ c, Cn w ca W H c v ∧ content d μ = .ok c μ ∧ ∀ W' H', GS w ca W' μ H' → Fr W H W' H' → P W' μ H' c := by
  by_cases n : ∀ i, d ≠ .loc i
  · have e : content d = M.ret d := by
      cases d with
      | loc i => exact (n i rfl).elim
      | _ => rfl
    rw [e] at h ⊢
    exact ⟨d, Rep.at_ g.sub r n, rfl, h⟩
  · simp only [Classical.not_forall, Classical.not_not] at n
    obtain ⟨i, rfl⟩ := n
    obtain ⟨a, rfl, e⟩ := r
    have ec : content (.loc i) μ = (match μ[i]? with | some (some d) => Res.ok d μ | _ => Res.bad) := rfl
    unfold Wp at h
    rw [ec] at h ⊢
    cases q : μ[i]? with
    | none => rw [q] at h; exact h.elim
    | some o => cases o with
      | none => rw [q] at h; exact h.elim
      | some c =>
        rw [q] at h
        exact ⟨c, Cn.of_at (g.lv i c a q e).2, rfl, h⟩
theorem cont_ok {ρ : Rho} {q : Q} {v : V} {f : D → M β} {P : Wd → Mu → Hp → β → Prop} (g : GS w ca W μ H) (s : SR w ca W H σ ρ) (r : RepQ w ca W H σ ρ q v) (h : Wp w ca Wx (cont ρ q >>= f) σ W μ H P) :
    ∃ c, Cn w ca W H c v ∧ Wp w ca Wx (f c) σ W μ H P := by
  cases q with
  | val d =>
    obtain ⟨c, h1, e, h2⟩ := content_ok g r (Wp.bind (show Wp w ca Wx (content d >>= f) σ W μ H P from h))
    exact ⟨c, h1, h2 W H g (Fr.refl W H)⟩
  | slot i =>
    have h : Wp w ca Wx ((match ρ[i]? with | some (some (.own d)) => M.ret d | _ => M.bad) >>= f) σ W μ H P := h
    cases e : ρ[i]? with
    | none => rw [e] at h; exact (Wp.bad (α := β) h).elim
    | some o => cases o with
      | none => rw [e] at h; exact (Wp.bad (α := β) h).elim
      | some o => cases o with
        | dat d => rw [e] at h; exact (Wp.bad (α := β) h).elim
        | own d =>
          rw [e] at h
          obtain ⟨u, h1, a, rfl, _, _, h2⟩ := s.at_ i _ e
          have r : σ[i]? = some (some v) := r
          rw [r] at h1; cases h1
          exact ⟨d, Cn.of_at h2, h⟩
theorem RepQ.fr {ρ : Rho} {q : Q} {v : V} {W' : Wd} {H' : Hp} (f : Fr W H W' H') (r : RepQ w ca W H σ ρ q v) : RepQ w ca W' H' σ ρ q v := by
  cases q with
  | val d => exact Rep.mono f.le d v r
  | slot i => exact r
end

/-! ### readings weakened -/
section
variable {X : Cx} {e : Expr}
theorem PE.of {t t' : TE} (h : PE X e t) (k : ∀ σ H Q, t' σ H Q → t σ H Q) : PE X e t' := ⟨fun pins s σ H Q I q => h.run pins s σ H Q I (k σ H Q q)⟩
theorem PT.of {t t' : TT} (h : PT X e t) (k : ∀ σ H Q, t' σ H Q → t σ H Q) : PT X e t' := ⟨fun pins s σ H Q I q => h.run pins s σ H Q I (k σ H Q q)⟩
theorem PW.of {t t' : TT} (h : PW X e t) (k : ∀ σ H Q, t' σ H Q → t σ H Q) : PW X e t' := ⟨fun whole pins s σ H Q I q => h.run whole pins s σ H Q I (k σ H Q q)⟩
theorem PA.of {es : List Expr} {t t' : TA} (h : PA X es t) (k : ∀ σ H Q, t' σ H Q → t σ H Q) : PA X es t' := ⟨fun pos pins s σ H Q I q => h.run pos pins s σ H Q I (k σ H Q q)⟩
theorem PI.of {tg : Expr} {t t' : TI} (h : PI X tg e t) (k : ∀ σ H Q, t' σ H Q → t σ H Q) : PI X tg e t' := ⟨fun pins s σ H Q I q => h.run pins s σ H Q I (k σ H Q q)⟩
theorem PS.of {st : Stmt} {t t' : TS} (h : PS X st t) (k : ∀ D σ H, t' D σ H → t D σ H) : PS X st t' := ⟨fun pins s σ H D I q => h.run pins s σ H D I (k D σ H q)⟩
theorem PSs.of {st : List Stmt} {t t' : TS} (h : PSs X st t) (k : ∀ D σ H, t' D σ H → t D σ H) : PSs X st t' := ⟨fun pins s σ H D I q => h.run pins s σ H D I (k D σ H q)⟩
end
end Mp

/-! The operators of Mp.Sem by the hand layer's (own work). -/
namespace Mp
open PySem PySem.Spec PyProof.Rows L2

section
variable {w : World} {ca : CA} {W : Wd} {μ : Mu} {H : Hp}
theorem out_tup {l : List D} {vs : List V} {Q : VK} {p : Addr} (g : GS w ca W μ H) (hp : H p = none) (r : Reps w ca W l vs)
    (h : ∀ W' H' v, GS w ca W' μ H' → Fr W H W' H' → Rep w ca W' (.tup l) v → Q v H') : Q (.ref p) (upd H p (.tup vs)) :=
  h _ _ _ (g.add hp) (Fr.add g hp) ⟨p, vs, rfl, upd_same, Reps.mono (Wd.le_add (g.free hp).1) l vs r⟩
theorem out_lst {l : List D} {vs : List V} {Q : VK} {p : Addr} (g : GS w ca W μ H) (hp : H p = none) (r : Reps w ca W l vs)
    (h : ∀ W' H' v, GS w ca W' μ H' → Fr W H W' H' → Rep w ca W' (.lst l) v → Q v H') : Q (.ref p) (upd H p (.lst vs)) :=
  h _ _ _ (g.add hp) (Fr.add g hp) ⟨p, vs, rfl, upd_same, Reps.mono (Wd.le_add (g.free hp).1) l vs r⟩
theorem out_same {d : D} {v : V} {Q : VK} (g : GS w ca W μ H) (r : Rep w ca W d v)
    (h : ∀ W' H' v, GS w ca W' μ H' → Fr W H W' H' → Rep w ca W' d v → Q v H') : Q v H := h W H v g (Fr.refl W H) r
theorem Reps.repl {l : List D} {vs : List V} (r : Reps w ca W l vs) : ∀ n : Nat, Reps w ca W (List.replicate n l).flatten (List.replicate n vs).flatten
  | 0 => rfl
  | n + 1 => by
    rw [List.replicate_succ, List.replicate_succ, List.flatten_cons, List.flatten_cons]
    exact r.append (Reps.repl r n)
end

/-! ### a op b -/
def opOf : BOp → Operator
  | .add => .Add | .sub => .Sub | .mul => .Mult | .mod => .Mod | .fdiv => .FloorDiv | .pow => .Pow
/-- contents in, a value out -/
def rBin (w : World) (ca : CA) (f : D → D → Option D) : R2 := fun x y H Q => ∃ W μ c d e, GS w ca W μ H ∧ Cn w ca W H c x ∧ Cn w ca W H d y ∧ f c d = some e ∧ ∀ W' H' v, GS w ca W' μ H' → Fr W H W' H' → Rep w ca W' e v → Q v H'
section
variable {X : Cx} {ca : CA}
theorem line_eq : line = sizeLine := sizeLine_eq.symm
/-- two tuples, one behind the other -/
theorem op_addT : OpR X (binaryOp .Add) (fun x y H Q => ∃ a b xs ys, x = .ref a ∧ y = .ref b ∧ SqT X.K H a xs ∧ SqT X.K H b ys ∧ xs.length + ys.length ≤ sizeLine ∧
    (xs = [] → Q (.ref b) H) ∧ (xs ≠ [] → ys = [] → Q (.ref a) H) ∧ (xs ≠ [] → ys ≠ [] → ∀ p, H p = none → Q (.ref p) (upd H p (.tup (xs ++ ys))))) := by
  intro pins s σ H x y v u Q I rx ry h
  obtain ⟨a, b, xs, ys, rfl, rfl, ha, hb, hz, q0, q1, q2⟩ := h
  by_cases hx : xs = []
  · cases rx
    cases ry
    obtain ⟨its, r1, p1, _⟩ := I.tuple ha
    obtain ⟨its2, r2, p2, _⟩ := I.tuple hb
    obtain ⟨⟨cls, dd, data, sl⟩, ho, hc, n, hd⟩ := id p1
    obtain ⟨⟨cls2, dd2, data2, sl2⟩, ho2, hc2, n2, hd2⟩ := id p2
    simp only at hc hd hc2 hd2
    subst hc hd hc2 hd2
    have hv : its = [] := r1.nil_iff.mpr hx
    exact concat_meets ⟨_, ho, rfl⟩ ⟨_, ho2, rfl⟩ noFill_tuple_add seq_tuple_add PySem.F.slot_tuple_add PySem.F.entry_tuple_add (PySem.F.args_tuple_add_2 _ _)
      (tuple_addW0 a b its.toArray its2.toArray n n2 dd dd2 sl sl2 (by simp [hv])) ⟨ho, ho2, ⟨.ref b, H, I, rfl, q0 hx⟩⟩
  · exact op_catT pins s σ H (.ref a) (.ref b) v u Q I rx ry ⟨a, b, xs, ys, rfl, rfl, ha, hb, hx, hz, q1 hx, q2 hx⟩
theorem small_ok {i j : Int} (h : (small i || small j) = true) : CMul i j := by
  unfold small at h
  simp only [Bool.or_eq_true, Bool.and_eq_true, decide_eq_true_eq] at h
  exact h
theorem op_bin (o : BOp) : OpR X (binaryOp (opOf o)) (rBin X.w ca (binop o)) := by
  intro pins s σ H x y v u Q I rx ry h
  obtain ⟨W, μ, c, d, e, g, hc, hd, he, hQ⟩ := h
  cases o with
  | add =>
    cases c <;> cases d <;> first | (simp only [binop] at he; cases he; done) | skip
    case int.int i j =>
      cases hc; cases hd; cases he
      exact op_add pins s σ H _ _ v u Q I rx ry ⟨i, j, rfl, rfl, hQ W H _ g (Fr.refl W H) rfl⟩
    case str.str i j =>
      cases hc; cases hd
      simp only [binop] at he
      split at he
      · rename_i hl
        cases he
        exact op_add_str pins s σ H _ _ v u Q I rx ry ⟨i, j, rfl, rfl, by rw [← line_eq]; exact hl, hQ W H _ g (Fr.refl W H) rfl⟩
      · cases he
    case lst.lst l m =>
      obtain ⟨a, rfl, vs, ea, ra⟩ := hc
      obtain ⟨b, rfl, us, eb, rb⟩ := hd
      simp only [binop] at he
      split at he
      · rename_i hl
        cases he
        exact op_cat pins s σ H _ _ v u Q I rx ry ⟨a, b, vs, us, rfl, rfl, ea, eb, by rw [ra.length, rb.length, ← line_eq]; exact hl, fun p hp => out_lst g hp (ra.append rb) hQ⟩
      · cases he
    case tup.tup l m =>
      have hc' := hc
      have hd' := hd
      obtain ⟨a, vs, rfl, ea, ra⟩ := hc
      obtain ⟨b, us, rfl, eb, rb⟩ := hd
      simp only [binop] at he
      split at he
      · rename_i hl
        cases he
        refine op_addT pins s σ H _ _ v u Q I rx ry ⟨a, b, vs, us, rfl, rfl, SqT.of (g.sub _ _ ea), SqT.of (g.sub _ _ eb), by rw [ra.length, rb.length, ← line_eq]; exact hl, fun z => ?_, fun _ z => ?_, fun _ _ p hp => out_tup g hp (ra.append rb) hQ⟩
        · have e0 : l = [] := List.length_eq_zero_iff.mp (by rw [← ra.length, z]; rfl)
          subst e0
          exact out_same g hd' hQ
        · have e0 : m = [] := List.length_eq_zero_iff.mp (by rw [← rb.length, z]; rfl)
          subst e0
          rw [List.append_nil] at hQ
          exact out_same g hc' hQ
      · cases he
  | sub =>
    cases c <;> cases d <;> first | (simp only [binop] at he; cases he; done) | skip
    case int.int i j =>
      cases hc; cases hd; cases he
      exact op_sub pins s σ H _ _ v u Q I rx ry ⟨i, j, rfl, rfl, hQ W H _ g (Fr.refl W H) rfl⟩
  | mul =>
    cases c <;> cases d <;> first | (simp only [binop] at he; cases he; done) | skip
    case int.int i j =>
      cases hc; cases hd
      simp only [binop] at he
      split at he
      · rename_i hl
        cases he
        exact op_mul pins s σ H _ _ v u Q I rx ry ⟨i, j, rfl, rfl, small_ok hl, hQ W H _ g (Fr.refl W H) rfl⟩
      · cases he
    case lst.int l j =>
      obtain ⟨a, rfl, vs, ea, ra⟩ := hc
      cases hd
      simp only [binop] at he
      split at he
      · rename_i hl
        cases he
        simp only [Bool.and_eq_true, decide_eq_true_eq] at hl
        obtain ⟨⟨h1, h2⟩, h3⟩ := hl
        exact op_rep pins s σ H _ _ v u Q I rx ry ⟨a, j, vs, rfl, rfl, ea, by omega, by omega, by rw [ra.length, ← line_eq]; exact h3, fun p hp => out_lst g hp (ra.repl _) hQ⟩
      · cases he
  | mod =>
    cases c <;> cases d <;> first | (simp only [binop] at he; cases he; done) | skip
    case int.int i j =>
      cases hc; cases hd
      simp only [binop] at he
      split at he
      · rename_i hl
        cases he
        exact op_modN pins s σ H _ _ v u Q I rx ry ⟨i, j, rfl, rfl, hl, hQ W H _ g (Fr.refl W H) rfl⟩
      · cases he
  | fdiv =>
    cases c <;> cases d <;> first | (simp only [binop] at he; cases he; done) | skip
    case int.int i j =>
      cases hc; cases hd
      simp only [binop] at he
      split at he
      · rename_i hl
        cases he
        exact op_fdivN pins s σ H _ _ v u Q I rx ry ⟨i, j, rfl, rfl, hl, hQ W H _ g (Fr.refl W H) rfl⟩
      · cases he
  | pow =>
    cases c <;> cases d <;> first | (simp only [binop] at he; cases he; done) | skip
    case int.int i j =>
      cases hc; cases hd
      simp only [binop] at he
      split at he
      · rename_i hl
        cases he
        exact op_pow pins s σ H _ _ v u Q I rx ry ⟨i, j, rfl, rfl, ⟨hl.1, by omega, hl.2.2⟩, hQ W H _ g (Fr.refl W H) rfl⟩
      · cases he
end
end Mp

/-! The comparisons of Mp.Sem by the hand layer's (own work). -/
namespace Mp
open PySem PySem.Spec PyProof.Rows L2

mutual
def toPy : D → PyData
  | .non => .none
  | .bl b => .bool b
  | .int i => .int i
  | .str s => .str s
  | .lst l => .list (toPys l)
  | .tup l => .tuple (toPys l)
  | _ => .none
def toPys : List D → List PyData
  | [] => []
  | d :: r => toPy d :: toPys r
end
mutual
theorem eqv_toPy : ∀ (n m : Nat) (a b : D), plain n a = true → plain m b = true → PyData.eqv (toPy a) (toPy b) = eqv a b
  | n, m, .non, b, ha, hb => by cases b <;> first | rfl | (cases m <;> cases hb)
  | n, m, .bl _, b, ha, hb => by cases b <;> first | rfl | (cases m <;> cases hb)
  | n, m, .int _, b, ha, hb => by cases b <;> first | rfl | (cases m <;> cases hb)
  | n, m, .str _, b, ha, hb => by cases b <;> first | rfl | (cases m <;> cases hb)
  | 0, m, .tup _, b, ha, hb => by cases ha
  | n + 1, m, .tup l, b, ha, hb => by
    cases b with
    | tup k =>
      cases m with
      | zero => cases hb
      | succ m =>
        show PyData.eqvAll (toPys l) (toPys k) = eqvs l k
        exact eqvs_toPy n m l k ha hb
    | dct _ _ => cases m <;> cases hb
    | obj _ _ => cases m <;> cases hb
    | loc _ => cases m <;> cases hb
    | scr _ => cases m <;> cases hb
    | _ => rfl
  | 0, m, .lst _, b, ha, hb => by cases ha
  | n + 1, m, .lst l, b, ha, hb => by
    cases b with
    | lst k =>
      cases m with
      | zero => cases hb
      | succ m =>
        show PyData.eqvAll (toPys l) (toPys k) = eqvs l k
        exact eqvs_toPy n m l k ha hb
    | dct _ _ => cases m <;> cases hb
    | obj _ _ => cases m <;> cases hb
    | loc _ => cases m <;> cases hb
    | scr _ => cases m <;> cases hb
    | _ => rfl
  | n, m, .dct _ _, b, ha, hb => by cases n <;> cases ha
  | n, m, .obj _ _, b, ha, hb => by cases n <;> cases ha
  | n, m, .loc _, b, ha, hb => by cases n <;> cases ha
  | n, m, .scr _, b, ha, hb => by cases n <;> cases ha
theorem eqvs_toPy : ∀ (n m : Nat) (a b : List D), plains n a = true → plains m b = true → PyData.eqvAll (toPys a) (toPys b) = eqvs a b
  | n, m, [], [], _, _ => rfl
  | n, m, [], _ :: _, _, _ => rfl
  | n, m, _ :: _, [], _, _ => rfl
  | n, m, d :: r, e :: q, ha, hb => by
    have ha : (plain n d && plains n r) = true := ha
    have hb : (plain m e && plains m q) = true := hb
    rw [Bool.and_eq_true] at ha hb
    show (PyData.eqv (toPy d) (toPy e) && PyData.eqvAll (toPys r) (toPys q)) = (eqv d e && eqvs r q)
    rw [eqv_toPy n m d e ha.1 hb.1, eqvs_toPy n m r q ha.2 hb.2]
end
mutual
theorem plain_shape : ∀ (n : Nat) (d : D), plain n d = true → (toPy d).canLay0 = true ∧ (toPy d).depth ≤ n
  | n, .non, _ => ⟨rfl, Nat.zero_le _⟩
  | n, .bl _, _ => ⟨rfl, Nat.zero_le _⟩
  | n, .int _, _ => ⟨rfl, Nat.zero_le _⟩
  | n, .str s, h => ⟨(by have h : s.cps.all (· < 0x110000) = true := (by cases n <;> exact h); exact h), Nat.zero_le _⟩
  | 0, .tup _, h => by cases h
  | n + 1, .tup l, h => by
    obtain ⟨h1, h2⟩ := plains_shape n l h
    exact ⟨h1, Nat.succ_le_succ h2⟩
  | 0, .lst _, h => by cases h
  | n + 1, .lst l, h => by
    obtain ⟨h1, h2⟩ := plains_shape n l h
    exact ⟨h1, Nat.succ_le_succ h2⟩
  | n, .dct _ _, h => by cases n <;> cases h
  | n, .obj _ _, h => by cases n <;> cases h
  | n, .loc _, h => by cases n <;> cases h
  | n, .scr _, h => by cases n <;> cases h
theorem plains_shape : ∀ (n : Nat) (l : List D), plains n l = true → PyData.canLayAll0 (toPys l) = true ∧ PyData.depthAll (toPys l) ≤ n
  | n, [], _ => ⟨rfl, Nat.zero_le _⟩
  | n, d :: r, h => by
    have h : (plain n d && plains n r) = true := h
    rw [Bool.and_eq_true] at h
    obtain ⟨a1, a2⟩ := plain_shape n d h.1
    obtain ⟨b1, b2⟩ := plains_shape n r h.2
    refine ⟨?_, ?_⟩
    · show ((toPy d).canLay0 && PyData.canLayAll0 (toPys r)) = true
      rw [a1, b1]; rfl
    · show max (toPy d).depth (PyData.depthAll (toPys r)) ≤ n
      omega
end
theorem shaped_of {d : D} (h : plain 64 d = true) : SeqAt.shaped (toPy d) = true := by
  obtain ⟨h1, h2⟩ := plain_shape 64 d h
  unfold SeqAt.shaped
  rw [h1]
  simp only [Bool.true_and, decide_eq_true_eq]
  exact h2
section
variable {w : World} {ca : CA} {W : Wd} {μ : Mu} {H : Hp} {K : PySem.W.Frag}
mutual
theorem rep_dp (g : ∀ a o, W.S a = some o → H a = some o) : ∀ (n : Nat) (d : D) (v : V), plain n d = true → Rep w ca W d v → Dp K H v (toPy d)
  | n, .non, v, _, r => by cases r; exact .non
  | n, .bl _, v, _, r => by cases r; exact .bl _
  | n, .int _, v, _, r => by cases r; exact .int _
  | n, .str _, v, _, r => by cases r; exact .str _
  | 0, .tup _, v, h, _ => by cases h
  | n + 1, .tup l, v, h, r => by
    obtain ⟨a, vs, rfl, e, q⟩ := r
    exact .tup (SqT.of (g _ _ e)) (reps_dp g n l vs h q)
  | 0, .lst _, v, h, _ => by cases h
  | n + 1, .lst l, v, h, r => by
    obtain ⟨a, vs, rfl, e, q⟩ := r
    exact .lst (SqL.of (g _ _ e)) (reps_dp g n l vs h q)
  | n, .dct _ _, v, h, _ => by cases n <;> cases h
  | n, .obj _ _, v, h, _ => by cases n <;> cases h
  | n, .loc _, v, h, _ => by cases n <;> cases h
  | n, .scr _, v, h, _ => by cases n <;> cases h
theorem reps_dp (g : ∀ a o, W.S a = some o → H a = some o) : ∀ (n : Nat) (l : List D) (vs : List V), plains n l = true → Reps w ca W l vs → DpAll K H vs (toPys l)
  | n, [], _, _, r => by have r : _ = [] := r; subst r; exact .nil
  | n, d :: q, _, h, r => by
    obtain ⟨v, u, rfl, a, b⟩ := r
    have h : (plain n d && plains n q) = true := h
    rw [Bool.and_eq_true] at h
    exact .cons (rep_dp g n d v h.1 a) (reps_dp g n q u h.2 b)
end
theorem cn_dp (g : ∀ a o, W.S a = some o → H a = some o) {d : D} {v : V} (h : plain 64 d = true) (r : Cn w ca W H d v) : Dp K H v (toPy d) := by
  cases d with
  | lst l =>
    obtain ⟨a, rfl, vs, e, q⟩ := r
    exact .lst (SqL.of e) (reps_dp g 63 l vs h q)
  | tup l => exact rep_dp g 64 _ _ h r
  | non => cases r; exact .non
  | bl _ => cases r; exact .bl _
  | int _ => cases r; exact .int _
  | str _ => cases r; exact .str _
  | dct _ _ => cases h
  | obj _ _ => cases h
  | loc _ => cases h
  | scr _ => cases h
theorem flat_V {d : D} {v : V} (h : flat d = true) (r : Rep w ca W d v) : flatV v = true := by
  cases d with
  | non => cases r; rfl
  | bl _ => cases r; rfl
  | int _ => cases r; rfl
  | str _ => cases r; rfl
  | _ => cases h
theorem eqv_V {d e : D} {v u : V} (h : flat d = true) (h' : flat e = true) (r : Rep w ca W d v) (q : Rep w ca W e u) : eqv d e = eqV v u := by
  cases d <;> first | (cases h; done) | skip
  all_goals (cases e <;> first | (cases h'; done) | skip)
  all_goals (cases r; cases q; rfl)
theorem inL_V {x : D} {v : V} (h : flat x = true) (r : Rep w ca W x v) : ∀ {l : List D} {vs : List V}, l.all flat = true → Reps w ca W l vs → (vs.all flatV = true ∧ (l.any fun d => eqv d x) = inV v vs)
  | [], _, _, q => by have q : _ = [] := q; subst q; exact ⟨rfl, rfl⟩
  | d :: l, _, hl, q => by
    obtain ⟨u, us, rfl, a, b⟩ := q
    rw [List.all_cons, Bool.and_eq_true] at hl
    obtain ⟨i1, i2⟩ := inL_V h r hl.2 b
    refine ⟨by rw [List.all_cons, flat_V hl.1 a, i1]; rfl, ?_⟩
    rw [List.any_cons, i2, eqv_V hl.1 h a r]
    rfl
end
end Mp

/-! The dicts of Mp.Sem by the hand layer's, and those with tuple keys by the library's nested kind (own work). -/
namespace Mp
open PySem PySem.Spec PyProof.Rows L2

/-! ### keys -/
mutual
theorem eqv_key : ∀ (n m : Nat) (a b : D), hk n a = true → hk m b = true → eqv a b = NestedKey.beq (toKey a) (toKey b)
  | n, m, .non, b, _, hb => by cases b <;> first | rfl | (cases m <;> cases hb)
  | n, m, .bl x, b, _, hb => by
    cases b with
    | bl y => cases x <;> cases y <;> rfl
    | int j =>
      show (b2i x == j) = decide (b2i x = j)
      rw [Bool.eq_iff_iff]; simp
    | _ => first | rfl | (cases m <;> cases hb)
  | n, m, .int i, b, _, hb => by
    cases b with
    | bl y =>
      show (i == b2i y) = decide (i = b2i y)
      rw [Bool.eq_iff_iff]; simp
    | int j =>
      show (i == j) = decide (i = j)
      rw [Bool.eq_iff_iff]; simp
    | _ => first | rfl | (cases m <;> cases hb)
  | n, m, .str x, b, _, hb => by
    cases b with
    | str y =>
      show (x == y) = decide (x = y)
      rw [Bool.eq_iff_iff]; simp
    | _ => first | rfl | (cases m <;> cases hb)
  | 0, m, .tup _, b, ha, _ => by cases ha
  | n + 1, m, .tup l, b, ha, hb => by
    cases b with
    | tup k =>
      cases m with
      | zero => cases hb
      | succ m =>
        show eqvs l k = NestedKey.beqAll (toKeys l) (toKeys k)
        exact eqvs_key n m l k ha hb
    | _ => first | rfl | (cases m <;> cases hb)
  | n, m, .lst _, b, ha, _ => by cases n <;> cases ha
  | n, m, .dct _ _, b, ha, _ => by cases n <;> cases ha
  | n, m, .obj _ _, b, ha, _ => by cases n <;> cases ha
  | n, m, .loc _, b, ha, _ => by cases n <;> cases ha
  | n, m, .scr _, b, ha, _ => by cases n <;> cases ha
theorem eqvs_key : ∀ (n m : Nat) (a b : List D), hks n a = true → hks m b = true → eqvs a b = NestedKey.beqAll (toKeys a) (toKeys b)
  | n, m, [], [], _, _ => rfl
  | n, m, [], _ :: _, _, _ => rfl
  | n, m, _ :: _, [], _, _ => rfl
  | n, m, d :: r, e :: q, ha, hb => by
    have ha : (hk n d && hks n r) = true := ha
    have hb : (hk m e && hks m q) = true := hb
    rw [Bool.and_eq_true] at ha hb
    show (eqv d e && eqvs r q) = (NestedKey.beq (toKey d) (toKey e) && NestedKey.beqAll (toKeys r) (toKeys q))
    rw [eqv_key n m d e ha.1 hb.1, eqvs_key n m r q ha.2 hb.2]
end
theorem keyOk_hk {k : Bool} {d : D} (h : keyOk k d = true) : hk 8 d = true := by
  cases d with
  | tup l =>
    have h : (k && hks 7 l) = true := h
    rw [Bool.and_eq_true] at h
    exact h.2
  | int _ => rfl
  | str _ => rfl
  | _ => cases h
theorem eqv_keys {k k' : Bool} {a b : D} (ha : keyOk k a = true) (hb : keyOk k' b = true) : eqv a b = decide (toKey a = toKey b) := by
  rw [eqv_key 8 8 a b (keyOk_hk ha) (keyOk_hk hb), NestedKey.decide_eq]
mutual
theorem hk_depth : ∀ (n : Nat) (d : D), hk n d = true → (toKey d).depth ≤ n
  | _, .non, _ => Nat.zero_le _
  | _, .bl _, _ => Nat.zero_le _
  | _, .int _, _ => Nat.zero_le _
  | _, .str _, _ => Nat.zero_le _
  | 0, .tup _, h => by cases h
  | n + 1, .tup l, h => Nat.succ_le_succ (hks_depth n l h)
  | n, .lst _, h => by cases n <;> cases h
  | n, .dct _ _, h => by cases n <;> cases h
  | n, .obj _ _, h => by cases n <;> cases h
  | n, .loc _, h => by cases n <;> cases h
  | n, .scr _, h => by cases n <;> cases h
theorem hks_depth : ∀ (n : Nat) (l : List D), hks n l = true → NestedKey.depthAll (toKeys l) ≤ n
  | _, [], _ => Nat.zero_le _
  | n, d :: r, h => by
    have h : (hk n d && hks n r) = true := h
    rw [Bool.and_eq_true] at h
    have h1 := hk_depth n d h.1
    have h2 := hks_depth n r h.2
    show max (toKey d).depth (NestedKey.depthAll (toKeys r)) ≤ n
    omega
end
section
variable {P : Program} {w : World} {ca : CA} {W : Wd} {μ : Mu} {H : Hp} {h : Heap}
mutual
/-- a value that may be a key is one, as the library has it -/
theorem rep_nested (ok : HOk P w H h) (g : ∀ a o, W.S a = some o → H a = some o) : ∀ (n : Nat) (d : D) (v : V) (u : Value), hk n d = true → Rep w ca W d v → RelV v u → NestedIs h (toKey d) u
  | n, .non, v, u, _, r, q => by cases r; cases q; exact .none
  | n, .bl b, v, u, _, r, q => by cases r; cases q; exact .bool rfl
  | n, .int i, v, u, _, r, q => by
    cases r
    obtain ⟨t, rfl⟩ := q
    exact .int i t
  | n, .str s, v, u, _, r, q => by
    cases r
    obtain ⟨t, rfl⟩ := q
    exact .text s t
  | 0, .tup _, v, u, e, _, _ => by cases e
  | n + 1, .tup l, v, u, e, r, q => by
    obtain ⟨a, vs, rfl, s, rs⟩ := r
    cases q
    obtain ⟨_, its, r1, o, ho, hc, m, hd⟩ := (show ObjOk P w H h a (.tup vs) from ok a _ (g _ _ s))
    exact .tup ho hc hd (by
      have := reps_nested ok g n l vs its e rs r1
      simpa using this)
  | n, .lst _, v, u, e, _, _ => by cases n <;> cases e
  | n, .dct _ _, v, u, e, _, _ => by cases n <;> cases e
  | n, .obj _ _, v, u, e, _, _ => by cases n <;> cases e
  | n, .loc _, v, u, e, _, _ => by cases n <;> cases e
  | n, .scr _, v, u, e, _, _ => by cases n <;> cases e
theorem reps_nested (ok : HOk P w H h) (g : ∀ a o, W.S a = some o → H a = some o) : ∀ (n : Nat) (l : List D) (vs : List V) (us : List Value), hks n l = true → Reps w ca W l vs → Vals vs us → NestedAll h (toKeys l) us
  | n, [], vs, us, _, r, q => by
    have r : vs = [] := r
    subst r
    cases q
    exact .nil
  | n, d :: r, vs, us, e, rs, q => by
    obtain ⟨v, vs', rfl, a, b⟩ := rs
    have e : (hk n d && hks n r) = true := e
    rw [Bool.and_eq_true] at e
    cases q with
    | cons q1 q2 => exact .cons (rep_nested ok g n d v _ e.1 a q1) (reps_nested ok g n r vs' _ e.2 b q2)
end
theorem rep_key (ok : HOk P w H h) (g : ∀ a o, W.S a = some o → H a = some o) {d : D} {b : Addr} (e : keyOk true d = true) (r : Rep w ca W d (.ref b)) : (nestedKind P w).is h (toKey d) b :=
  ⟨rep_nested ok g 8 d (.ref b) (.ref b) (keyOk_hk e) r rfl, hk_depth 8 d (keyOk_hk e)⟩
theorem rep_key_ref {d : D} {v : V} (e : keyOk true d = true) (r : Rep w ca W d v) : ∃ b, v = .ref b := by
  cases d with
  | tup l => obtain ⟨a, vs, rfl, _⟩ := r; exact ⟨a, rfl⟩
  | _ => cases e
theorem rep_key_atom {d : D} {v : V} (e : keyOk false d = true) (r : Rep w ca W d v) : ∃ k : Key, v = kV k := by
  cases d with
  | int i => cases r; exact ⟨.inl i, rfl⟩
  | str s => cases r; exact ⟨.inr s, rfl⟩
  | _ => cases e

/-! ### dicts with atoms as keys -/
theorem rep_kV {d : D} {k : Key} (r : Rep w ca W d (kV k)) : d = (match k with | .inl i => D.int i | .inr s => D.str s) := by
  cases k with
  | inl i =>
    cases d with
    | int j => cases r; rfl
    | non => cases r
    | bl _ => cases r
    | str _ => cases r
    | dct k l => cases k with
      | false => obtain ⟨_, _, _, e, _⟩ := r; cases e
      | true => obtain ⟨_, _, _, _, e, _⟩ := r; cases e
    | tup _ => obtain ⟨_, _, e, _⟩ := r; cases e
    | lst _ => obtain ⟨_, _, e, _⟩ := r; cases e
    | obj _ _ => obtain ⟨_, _, _, e, _⟩ := r; cases e
    | loc _ => obtain ⟨_, e, _⟩ := r; cases e
    | scr _ => obtain ⟨_, e, _⟩ := r; cases e
  | inr s =>
    cases d with
    | str j => cases r; rfl
    | non => cases r
    | bl _ => cases r
    | int _ => cases r
    | dct k l => cases k with
      | false => obtain ⟨_, _, _, e, _⟩ := r; cases e
      | true => obtain ⟨_, _, _, _, e, _⟩ := r; cases e
    | tup _ => obtain ⟨_, _, e, _⟩ := r; cases e
    | lst _ => obtain ⟨_, _, e, _⟩ := r; cases e
    | obj _ _ => obtain ⟨_, _, _, e, _⟩ := r; cases e
    | loc _ => obtain ⟨_, e, _⟩ := r; cases e
    | scr _ => obtain ⟨_, e, _⟩ := r; cases e
theorem eqv_kV {d e : D} {k q : Key} (r : Rep w ca W d (kV k)) (s : Rep w ca W e (kV q)) : eqv d e = decide (k = q) := by
  rw [rep_kV r, rep_kV s]
  cases k with
  | inl i => cases q with
    | inl j =>
      show (i == j) = _
      rw [key_ll]
    | inr y => rw [key_lr]; rfl
  | inr x => cases q with
    | inl j => rw [key_rl]; rfl
    | inr y =>
      show (x == y) = _
      rw [key_rr, Bool.eq_iff_iff]; simp
/-- what is found, on both sides -/
def RepO (w : World) (ca : CA) (W : Wd) : Option D → Option V → Prop
  | some d, some v => Rep w ca W d v
  | none, none => True
  | _, _ => False
theorem look_cons {p : D × D} {r : List (D × D)} {k : D} : look (p :: r) k = if eqv p.1 k = true then some p.2 else look r k := by
  unfold look
  rw [List.find?_cons]
  cases eqv p.1 k <;> rfl
theorem look_K {k : D} {q : Key} (rk : Rep w ca W k (kV q)) : ∀ {l : List (D × D)} {kvs : List (Key × V)}, RepK w ca W l kvs → RepO w ca W (look l k) (valV kvs q)
  | [], _, r => by have r : _ = [] := r; subst r; exact True.intro
  | p :: l, _, r => by
    obtain ⟨x, v, kvs, rfl, a, b, c⟩ := r
    rw [look_cons]
    by_cases e : x = q
    · rw [if_pos (by rw [eqv_kV a rk, e]; simp), valV_pos e]
      exact b
    · rw [if_neg (by rw [eqv_kV a rk]; simp [e]), valV_neg e]
      exact look_K rk c
theorem RepO.isSome {o : Option D} {q : Option V} (r : RepO w ca W o q) : q.isSome = o.isSome := by
  cases o <;> cases q <;> first | rfl | exact r.elim
theorem map_K {k d : D} {q : Key} {v : V} (rk : Rep w ca W k (kV q)) (rd : Rep w ca W d v) : ∀ {l : List (D × D)} {kvs : List (Key × V)}, RepK w ca W l kvs →
    RepK w ca W (l.map fun p => if eqv p.1 k = true then (p.1, d) else p) (kvs.map fun kv => if kv.1 = q then (kv.1, v) else kv)
  | [], _, r => by have r : _ = [] := r; subst r; exact rfl
  | p :: l, _, r => by
    obtain ⟨x, u, kvs, rfl, a, b, c⟩ := r
    have ih := map_K rk rd c
    rw [List.map_cons, List.map_cons]
    by_cases e : x = q
    · rw [if_pos (by rw [eqv_kV a rk, e]; simp), if_pos e]
      exact ⟨x, v, _, rfl, a, rd, ih⟩
    · rw [if_neg (by rw [eqv_kV a rk]; simp [e]), if_neg e]
      exact ⟨x, u, _, rfl, a, b, ih⟩
theorem snoc_K {k d : D} {q : Key} {v : V} (rk : Rep w ca W k (kV q)) (rd : Rep w ca W d v) : ∀ {l : List (D × D)} {kvs : List (Key × V)}, RepK w ca W l kvs → RepK w ca W (l ++ [(k, d)]) (kvs ++ [(q, v)])
  | [], _, r => by have r : _ = [] := r; subst r; exact ⟨q, v, [], rfl, rk, rd, rfl⟩
  | p :: l, _, r => by
    obtain ⟨x, u, kvs, rfl, a, b, c⟩ := r
    exact ⟨x, u, _, rfl, a, b, snoc_K rk rd c⟩
theorem put_K {k d : D} {q : Key} {v : V} (rk : Rep w ca W k (kV q)) (rd : Rep w ca W d v) {l : List (D × D)} {kvs : List (Key × V)} (r : RepK w ca W l kvs) : RepK w ca W (put l k d) (putK kvs q v) := by
  unfold put putK
  rw [valV_any, (look_K rk r).isSome]
  split
  · exact map_K rk rd r
  · exact snoc_K rk rd r

/-! ### dicts with tuples as keys -/
/-- the entries as the library's triples -/
def xsOf : List (D × D) → List DictEntry → List (NestedKey × Addr × Value)
  | p :: l, e :: es => (toKey p.1, (match e.key with | .ref b => b | _ => 0), e.val) :: xsOf l es
  | _, _ => []
theorem xs_keys : ∀ {l : List (D × D)} {es : List DictEntry}, RepN w ca W l es → (xsOf l es).map (·.1) = l.map fun p => toKey p.1
  | [], _, r => by have r : _ = [] := r; subst r; rfl
  | p :: l, _, r => by
    obtain ⟨b, v, u, q, rfl, _, _, _, t⟩ := r
    show _ :: _ = _ :: _
    rw [xs_keys t]
theorem xs_len : ∀ {l : List (D × D)} {es : List DictEntry}, RepN w ca W l es → (xsOf l es).length = l.length
  | [], _, r => by have r : _ = [] := r; subst r; rfl
  | p :: l, _, r => by
    obtain ⟨b, v, u, q, rfl, _, _, _, t⟩ := r
    show _ + 1 = _ + 1
    rw [xs_len t]
theorem xs_entries : ∀ {l : List (D × D)} {es : List DictEntry}, RepN w ca W l es → es = (xsOf l es).map (entryOfKey (nestedKind P w))
  | [], _, r => by have r : _ = [] := r; subst r; rfl
  | p :: l, _, r => by
    obtain ⟨b, v, u, q, rfl, _, _, _, t⟩ := r
    have ih := xs_entries t
    show _ :: _ = _ :: _
    rw [← ih]
    rfl
theorem xs_is (ok : HOk P w H h) (g : ∀ a o, W.S a = some o → H a = some o) : ∀ {l : List (D × D)} {es : List DictEntry}, RepN w ca W l es → (l.all fun p => keyOk true p.1) = true → ∀ x ∈ xsOf l es, (nestedKind P w).is h x.1 x.2.1
  | [], _, r, _ => by have r : _ = [] := r; subst r; exact fun x hx => nomatch hx
  | p :: l, _, r, ha => by
    obtain ⟨b, v, u, q, rfl, rk, _, _, t⟩ := r
    rw [List.all_cons, Bool.and_eq_true] at ha
    intro x hx
    rcases List.mem_cons.mp (show x ∈ (toKey p.1, b, u) :: xsOf l q from hx) with e | hx
    · rw [e]; exact rep_key ok g ha.1 rk
    · exact xs_is ok g t ha.2 x hx
theorem raw_get {a : Addr} {o : Obj} (ok : HOk P w H h) (e : H a = some (rawO a o)) : h.get? a = some o := (ok a _ e).1
theorem dictOf_N (ok : HOk P w H h) (g : ∀ a o, W.S a = some o → H a = some o) {a : Addr} {o : Obj} {l : List (D × D)} {es : Array DictEntry} {ep : Nat} (e : H a = some (rawO a o)) (n : NDict l a o es ep) (r : RepN w ca W l es.toList) :
    h.DictOfH (nestedKind P w) a (xsOf l es.toList) :=
  ⟨o, es, ep, raw_get ok e, n.ex, n.dat, xs_entries r, xs_is ok g r n.keys, by rw [xs_keys r]; exact n.nd⟩
theorem atKey_cons {x : NestedKey × Addr × Value} {r : List (NestedKey × Addr × Value)} {k : NestedKey} : atKey (x :: r) k = if x.1 = k then some x.2 else atKey r k := by
  unfold atKey
  rw [List.find?_cons]
  by_cases e : x.1 = k
  · simp [e]
  · simp [e]
/-- what is found: a value and what it stands for -/
def RepA (w : World) (ca : CA) (W : Wd) : Option D → Option (Addr × Value) → Prop
  | some d, some p => ∃ v, RelV v p.2 ∧ Rep w ca W d v
  | none, none => True
  | _, _ => False
theorem RepA.isSome {o : Option D} {q : Option (Addr × Value)} (r : RepA w ca W o q) : q.isSome = o.isSome := by
  cases o <;> cases q <;> first | rfl | exact r.elim
theorem look_N {k : D} (hk : keyOk true k = true) : ∀ {l : List (D × D)} {es : List DictEntry}, RepN w ca W l es → (l.all fun p => keyOk true p.1) = true → RepA w ca W (look l k) (atKey (xsOf l es) (toKey k))
  | [], _, r, _ => by have r : _ = [] := r; subst r; exact True.intro
  | p :: l, _, r, ha => by
    obtain ⟨b, v, u, q, rfl, rk, ru, rv, t⟩ := r
    rw [List.all_cons, Bool.and_eq_true] at ha
    show RepA w ca W (look (p :: l) k) (atKey ((toKey p.1, b, u) :: xsOf l q) (toKey k))
    rw [look_cons, atKey_cons, eqv_keys ha.1 hk]
    by_cases e : toKey p.1 = toKey k
    · rw [if_pos (by simp [e]), if_pos e]
      exact ⟨v, ru, rv⟩
    · rw [if_neg (by simp [e]), if_neg e]
      exact look_N hk t ha.2
end
section
variable {X : Cx} {pins : List (Addr × Obj)} {σ : L2.St} {H : Hp} {s : Shared} {A : Around} {E : Value → Shared → Prop} {ca : CA} {W : Wd} {μ : Mu}
/-- a dict, whatever its keys -/
theorem dct_in {a : Addr} {k : Bool} {l : List (D × D)} {x : D} {v : V} {u : Value} {Q : Value → Shared → Prop} (hu : A.units + 16 < cLine) (I : Inv X pins σ H s) (g : GS X.w ca W μ H) (q : CnD X.w ca W H a k l) (hk : keyOk k x = true) (rx : Rep X.w ca W x v) (rv : RelV v u)
    (h : ∀ s', Inv X pins σ H s' → Q (.bool (look l x).isSome) s') : wpAny (model X.prog X.w) A (compareOp .In u (.ref a)) Q E s := by
  cases k with
  | false =>
    obtain ⟨kvs, e, r⟩ := q
    obtain ⟨key, rfl⟩ := rep_key_atom hk rx
    refine d_in (by omega) I ((.inl ⟨kvs, key, e, rfl, rfl⟩ : DGet _ _ _ _)) rv fun s' I' => ?_
    rw [(look_K rx r).isSome]
    exact h s' I'
  | true =>
    obtain ⟨o, es, ep, e, n, r⟩ := q
    obtain ⟨b, rfl⟩ := rep_key_ref hk rx
    cases rv
    refine wpAny_in_heap (knd := nestedKind X.prog X.w) (show A.in1.units + 8 < cLine from by rw [Around.in1_units]; omega) (rep_key I.hok g.sub hk rx) n.sm (dictOf_N I.hok g.sub e n r) ?_
    rw [(look_N hk r n.keys).isSome]
    exact h _ (I.tok _)
theorem dct_notIn {a : Addr} {k : Bool} {l : List (D × D)} {x : D} {v : V} {u : Value} {Q : Value → Shared → Prop} (hu : A.units + 16 < cLine) (I : Inv X pins σ H s) (g : GS X.w ca W μ H) (q : CnD X.w ca W H a k l) (hk : keyOk k x = true) (rx : Rep X.w ca W x v) (rv : RelV v u)
    (h : ∀ s', Inv X pins σ H s' → Q (.bool (!(look l x).isSome)) s') : wpAny (model X.prog X.w) A (compareOp .NotIn u (.ref a)) Q E s := by
  cases k with
  | false =>
    obtain ⟨kvs, e, r⟩ := q
    obtain ⟨key, rfl⟩ := rep_key_atom hk rx
    refine d_notIn (by omega) I ((.inl ⟨kvs, key, e, rfl, rfl⟩ : DGet _ _ _ _)) rv fun s' I' => ?_
    rw [(look_K rx r).isSome]
    exact h s' I'
  | true =>
    obtain ⟨o, es, ep, e, n, r⟩ := q
    obtain ⟨b, rfl⟩ := rep_key_ref hk rx
    cases rv
    refine wpAny_notIn_heap (knd := nestedKind X.prog X.w) (show A.in1.units + 8 < cLine from by rw [Around.in1_units]; omega) (rep_key I.hok g.sub hk rx) n.sm (dictOf_N I.hok g.sub e n r) ?_
    rw [(look_N hk r n.keys).isSome]
    exact h _ (I.tok _)
theorem dct_get {a : Addr} {k : Bool} {l : List (D × D)} {x d : D} {v : V} {u : Value} {Q : Value → Shared → Prop} (hu : A.units + 16 < cLine) (I : Inv X pins σ H s) (g : GS X.w ca W μ H) (q : CnD X.w ca W H a k l) (hk : keyOk k x = true) (rx : Rep X.w ca W x v) (rv : RelV v u)
    (hl : look l x = some d) (h : ∀ v u' s', Inv X pins σ H s' → RelV v u' → Rep X.w ca W d v → Q u' s') : wpAny (model X.prog X.w) A (getItem (.ref a) u) Q E s := by
  cases k with
  | false =>
    obtain ⟨kvs, e, r⟩ := q
    obtain ⟨key, rfl⟩ := rep_key_atom hk rx
    have z := look_K rx r
    rw [hl] at z
    cases f : valV kvs key with
    | none => rw [f] at z; exact z.elim
    | some v' =>
      rw [f] at z
      exact d_getItem (by omega) I (by rw [← f]; exact (.inl ⟨kvs, key, e, rfl, rfl⟩ : DGet _ _ _ _)) rv fun u' s' I' r' => h v' u' s' I' r' z
  | true =>
    obtain ⟨o, es, ep, e, n, r⟩ := q
    obtain ⟨b, rfl⟩ := rep_key_ref hk rx
    cases rv
    have z := look_N hk r n.keys
    rw [hl] at z
    cases f : atKey (xsOf l es.toList) (toKey x) with
    | none => rw [f] at z; exact z.elim
    | some p =>
      rw [f] at z
      obtain ⟨v', r1, r2⟩ := z
      refine wpAny_getItem_heap (knd := nestedKind X.prog X.w) (show A.in1.units + 8 < cLine from by rw [Around.in1_units]; omega) (rep_key I.hok g.sub hk rx) (dictOf_N I.hok g.sub e n r) f ?_
      exact h v' p.2 _ (I.tok _) r1 r2
theorem dct_typeIs {a : Addr} {k : Bool} {l : List (D × D)} (I : Inv X pins σ H s) (q : CnD X.w ca W H a k l) : s.TypeIs (.ref a) "dict" := by
  cases k with
  | false =>
    obtain ⟨kvs, e, r⟩ := q
    obtain ⟨_, _, vs, _, dd⟩ := dk_rd I.hok e
    exact dd.typeIs
  | true =>
    obtain ⟨o, es, ep, e, n, r⟩ := q
    exact ⟨o, raw_get I.hok e, n.ex.1⟩
theorem dct_isD {a : Addr} {k : Bool} {l : List (D × D)} (I : Inv X pins σ H s) (q : CnD X.w ca W H a k l) :
    s.TypeIs (.ref a) "dict" ∧ (∀ b, Value.ref a = .ref b → ∃ ob, s.heap.get? b = some ob ∧ ob.dict = none) ∧ (a == sysModules) = false := by
  cases k with
  | false =>
    obtain ⟨kvs, e, r⟩ := q
    exact isD_at I (.inl ⟨kvs, e⟩)
  | true =>
    obtain ⟨o, es, ep, e, n, r⟩ := q
    exact ⟨⟨o, raw_get I.hok e, n.ex.1⟩, fun b z => by cases z; exact ⟨o, raw_get I.hok e, n.ex.2.1⟩, n.sm⟩
end
end Mp

/-! Dicts changed, asked with a default, counted (own work). -/
namespace Mp
open PySem PySem.Spec PyProof.Rows L2

section
variable {P : Program} {w : World} {ca : CA} {W : Wd} {μ : Mu} {H : Hp} {h : Heap}
theorem map_N {k d : D} {b : Addr} {v : V} {u : Value} (hk : keyOk true k = true) (rk : Rep w ca W k (.ref b)) (ru : RelV v u) (rd : Rep w ca W d v) : ∀ {l : List (D × D)} {es : List DictEntry}, RepN w ca W l es → (l.all fun p => keyOk true p.1) = true →
    RepN w ca W (l.map fun p => if eqv p.1 k = true then (p.1, d) else p) (((xsOf l es).map (putAt (toKey k) u)).map (entryOfKey (nestedKind P w)))
  | [], _, r, _ => by have r : _ = [] := r; subst r; exact rfl
  | p :: l, _, r, ha => by
    obtain ⟨c, x, y, q, rfl, r1, r2, r3, t⟩ := r
    rw [List.all_cons, Bool.and_eq_true] at ha
    have ih := map_N hk rk ru rd t ha.2
    rw [List.map_cons]
    show RepN w ca W _ (entryOfKey (nestedKind P w) (putAt (toKey k) u (toKey p.1, c, y)) :: _)
    unfold putAt
    rw [eqv_keys ha.1 hk]
    by_cases e : toKey p.1 = toKey k
    · rw [if_pos (by simp [e]), if_pos e]
      exact ⟨c, v, u, _, rfl, r1, ru, rd, ih⟩
    · rw [if_neg (by simp [e]), if_neg e]
      exact ⟨c, x, y, _, rfl, r1, r2, r3, ih⟩
theorem snoc_N {k d : D} {b : Addr} {v : V} {u : Value} (rk : Rep w ca W k (.ref b)) (ru : RelV v u) (rd : Rep w ca W d v) : ∀ {l : List (D × D)} {es : List DictEntry}, RepN w ca W l es →
    RepN w ca W (l ++ [(k, d)]) (((xsOf l es) ++ [(toKey k, b, u)]).map (entryOfKey (nestedKind P w)))
  | [], _, r => by have r : _ = [] := r; subst r; exact ⟨b, v, u, [], rfl, rk, ru, rd, rfl⟩
  | p :: l, _, r => by
    obtain ⟨c, x, y, q, rfl, r1, r2, r3, t⟩ := r
    exact ⟨c, x, y, _, rfl, r1, r2, r3, snoc_N rk ru rd t⟩
theorem put_N {k d : D} {b : Addr} {v : V} {u : Value} (hk : keyOk true k = true) (rk : Rep w ca W k (.ref b)) (ru : RelV v u) (rd : Rep w ca W d v) {l : List (D × D)} {es : List DictEntry} (r : RepN w ca W l es) (ha : (l.all fun p => keyOk true p.1) = true) :
    RepN w ca W (put l k d) ((storedH (xsOf l es) (toKey k) b u).map (entryOfKey (nestedKind P w))) := by
  unfold put storedH
  rw [(look_N hk r ha).isSome]
  split
  · exact map_N hk rk ru rd r ha
  · exact snoc_N rk ru rd r
theorem put_keys {k d : D} {b : Addr} {u : Value} (hk : keyOk true k = true) {l : List (D × D)} {es : List DictEntry} (r : RepN w ca W l es) (ha : (l.all fun p => keyOk true p.1) = true) :
    (put l k d).map (fun p => toKey p.1) = (storedH (xsOf l es) (toKey k) b u).map (·.1) := by
  unfold put storedH
  rw [(look_N hk r ha).isSome]
  split
  · rw [List.map_map, List.map_map]
    have e1 : (l.map ((fun p => toKey p.1) ∘ fun p => if eqv p.1 k = true then (p.1, d) else p)) = l.map fun p => toKey p.1 := by
      refine List.map_congr_left fun p _ => ?_
      show toKey (if eqv p.1 k = true then (p.1, d) else p).1 = toKey p.1
      split <;> rfl
    have e2 : ((xsOf l es).map ((fun x => x.1) ∘ putAt (toKey k) u)) = (xsOf l es).map (·.1) := by
      refine List.map_congr_left fun p _ => ?_
      show (putAt (toKey k) u p).1 = p.1
      unfold putAt
      split <;> rfl
    rw [e1, e2, xs_keys r]
  · rw [List.map_append, List.map_append, xs_keys r]
    rfl
theorem put_length (l : List (D × D)) (k d : D) : (put l k d).length ≤ l.length + 1 := by
  unfold put
  split
  · rw [List.length_map]; omega
  · rw [List.length_append]; simp
theorem put_all {kk : Bool} {k d : D} (hk : keyOk kk k = true) {l : List (D × D)} (ha : (l.all fun p => keyOk kk p.1) = true) : ((put l k d).all fun p => keyOk kk p.1) = true := by
  rw [List.all_eq_true] at ha ⊢
  intro p hp
  unfold put at hp
  split at hp
  · obtain ⟨q, hq, e⟩ := List.mem_map.mp hp
    split at e <;> (subst e; exact ha q hq)
  · rcases List.mem_append.mp hp with hp | hp
    · exact ha p hp
    · simp at hp; subst hp; exact hk
theorem raw_ok {a : Addr} {o : Obj} {h' : Heap} {H' : Hp} (e : h'.get? a = some o) : ObjOk P w H' h' a (rawO a o) := ⟨e, ⟨o, e⟩, fun _ _ z k => k o z⟩
end
section
variable {X : Cx} {pins : List (Addr × Obj)} {σ : L2.St} {H : Hp} {s : Shared} {A : Around} {E : Value → Shared → Prop} {ca : CA} {W : Wd} {μ : Mu}
/-- d[k] = v -/
theorem dct_set {a : Addr} {k : Bool} {l : List (D × D)} {x d : D} {v y : V} {u r : Value} {Q : Unit → Shared → Prop} (hu : A.units + 16 < cLine) (I : Inv X pins σ H s) (g : GS X.w ca W μ H) (q : At X.w ca W H a (.dct k l)) (hk : keyOk k x = true) (rx : Rep X.w ca W x v) (rv : RelV v u)
    (rd : Rep X.w ca W d y) (ry : RelV y r) (hl : l.length < line) (h : ∀ o s', Inv X pins σ (upd H a o) s' → At X.w ca W (upd H a o) a (.dct k (put l x d)) → Q () s') : wpAny (model X.prog X.w) A (setItem (.ref a) u r) Q E s := by
  have hl' : l.length < sizeLine := by rw [← line_eq]; exact hl
  cases k with
  | false =>
    obtain ⟨kvs, e, rk⟩ := q
    obtain ⟨key, rfl⟩ := rep_key_atom hk rx
    exact d_setItem (by omega) I (DPut.k (k := key) (v := y) e (by rw [rk.length]; exact hl')) rv ry fun s' I' => h _ s' I' ⟨_, upd_same, put_K rx rd rk⟩
  | true =>
    obtain ⟨o, es, ep, e, n, rn⟩ := q
    obtain ⟨b, rfl⟩ := rep_key_ref hk rx
    cases rv
    refine wpAny_setItem_heap (knd := nestedKind X.prog X.w) (hsz := by rw [xs_len rn]; exact n.len) (show A.in1.units + 8 < cLine from by rw [Around.in1_units]; omega) (rep_key I.hok g.sub hk rx) (dictOf_N I.hok g.sub e n rn) fun h' dd hs => ?_
    obtain ⟨o', es', ep', ho', h1, h2, h3, _, h5⟩ := dd
    refine h (rawO a o') _ (d_write I (by rw [e]; exact True.intro) hs ⟨o', ho'⟩ (raw_ok ho')) ⟨o', es', ep', upd_same, ⟨n.sm, ?_, h1, h2, put_all hk n.keys, ?_⟩, ?_⟩
    · have := put_length l x d; omega
    · rw [put_keys hk rn n.keys]; exact h5
    · rw [h3]; exact put_N hk rx ry rd rn n.keys
/-- d.get(k, x), d.get(k) -/
theorem dct_getD {a : Addr} {k : Bool} {l : List (D × D)} {x d : D} {v y : V} {u r : Value} {Q : Value → Shared → Prop} (hu : A.units + 16 < cLine) (I : Inv X pins σ H s) (g : GS X.w ca W μ H) (q : CnD X.w ca W H a k l) (hk : keyOk k x = true) (rx : Rep X.w ca W x v) (rv : RelV v u)
    (rd : Rep X.w ca W d y) (ry : RelV y r) (h : ∀ v u' s', Inv X pins σ H s' → RelV v u' → Rep X.w ca W ((look l x).getD d) v → Q u' s') : wpAny (model X.prog X.w) A (call (.builtin "dict.get") [.ref a, u, r]) Q E s := by
  cases k with
  | false =>
    obtain ⟨kvs, e, rk⟩ := q
    obtain ⟨key, rfl⟩ := rep_key_atom hk rx
    refine d_get2 (by omega) I ((.inl ⟨kvs, key, e, rfl, rfl⟩)) rv ry fun u' s' I' r' => h _ u' s' I' r' ?_
    have z := look_K rx rk
    cases f : look l x <;> cases f2 : valV kvs key <;> rw [f, f2] at z
    · exact rd
    · exact z.elim
    · exact z.elim
    · exact z
  | true =>
    obtain ⟨o, es, ep, e, n, rn⟩ := q
    obtain ⟨b, rfl⟩ := rep_key_ref hk rx
    cases rv
    have z := look_N hk rn n.keys
    refine call_meetsIn PySem.F.slot_dict_get (show s.TypeIs (.ref a) "dict" from ⟨o, raw_get I.hok e, n.ex.1⟩) PySem.F.entry_dict_get (PySem.F.args_dict_get_3 _ _ _) (meetsH_dict_get_default (nestedKind X.prog X.w) a b n.sm r)
      ⟨show A.in1.units + 8 < cLine from by rw [Around.in1_units]; omega, toKey x, _, rep_key I.hok g.sub hk rx, dictOf_N I.hok g.sub e n rn, ?_⟩
    cases f : look l x <;> cases f2 : atKey (xsOf l es.toList) (toKey x) <;> rw [f, f2] at z
    · exact h y r _ (I.tok _) ry (by rw [f]; exact rd)
    · exact z.elim
    · exact z.elim
    · obtain ⟨v', r1, r2⟩ := z
      exact h v' _ _ (I.tok _) r1 (by rw [f]; exact r2)
theorem dct_getN {a : Addr} {k : Bool} {l : List (D × D)} {x : D} {v : V} {u : Value} {Q : Value → Shared → Prop} (hu : A.units + 16 < cLine) (I : Inv X pins σ H s) (g : GS X.w ca W μ H) (q : CnD X.w ca W H a k l) (hk : keyOk k x = true) (rx : Rep X.w ca W x v) (rv : RelV v u)
    (h : ∀ v u' s', Inv X pins σ H s' → RelV v u' → Rep X.w ca W ((look l x).getD .non) v → Q u' s') : wpAny (model X.prog X.w) A (call (.builtin "dict.get") [.ref a, u]) Q E s := by
  cases k with
  | false =>
    obtain ⟨kvs, e, rk⟩ := q
    obtain ⟨key, rfl⟩ := rep_key_atom hk rx
    refine d_get1 (by omega) I ((.inl ⟨kvs, key, e, rfl, rfl⟩)) rv fun u' s' I' r' => h _ u' s' I' r' ?_
    have z := look_K rx rk
    cases f : look l x <;> cases f2 : valV kvs key <;> rw [f, f2] at z
    · exact rfl
    · exact z.elim
    · exact z.elim
    · exact z
  | true =>
    obtain ⟨o, es, ep, e, n, rn⟩ := q
    obtain ⟨b, rfl⟩ := rep_key_ref hk rx
    cases rv
    have z := look_N hk rn n.keys
    refine call_meetsIn PySem.F.slot_dict_get (show s.TypeIs (.ref a) "dict" from ⟨o, raw_get I.hok e, n.ex.1⟩) PySem.F.entry_dict_get (PySem.F.args_dict_get_2 _ _) (meetsH_dict_get (nestedKind X.prog X.w) a b n.sm)
      ⟨show A.in1.units + 8 < cLine from by rw [Around.in1_units]; omega, toKey x, _, rep_key I.hok g.sub hk rx, dictOf_N I.hok g.sub e n rn, ?_⟩
    cases f : look l x <;> cases f2 : atKey (xsOf l es.toList) (toKey x) <;> rw [f, f2] at z
    · exact h .non _ _ (I.tok _) rfl (by rw [f]; rfl)
    · exact z.elim
    · exact z.elim
    · obtain ⟨v', r1, r2⟩ := z
      exact h v' _ _ (I.tok _) r1 (by rw [f]; exact r2)
/-- len(d), if d -/
theorem dct_len {a : Addr} {k : Bool} {l : List (D × D)} {Q : Value → Shared → Prop} (I : Inv X pins σ H s) (g : GS X.w ca W μ H) (q : CnD X.w ca W H a k l) (h : ∀ t s', Inv X pins σ H s' → Q (.int l.length t) s') : wpAny (model X.prog X.w) A (call (.builtin "len") [.ref a]) Q E s := by
  have hs : sizeLine = 16777216 := sizeLine_eq
  cases k with
  | false =>
    obtain ⟨kvs, e, rk⟩ := q
    refine d_len I e fun t s' I' => ?_
    rw [rk.length]
    exact h t s' I'
  | true =>
    obtain ⟨o, es, ep, e, n, rn⟩ := q
    have hm : s.heap.DictKeyed (nestedKind X.prog X.w) a _ := ⟨_, dictOf_N I.hok g.sub e n rn, rfl⟩
    have el : (pairsH (xsOf l es.toList)).length = l.length := by rw [pairsH_length, xs_len rn]
    have hz := n.len
    refine PyProof.Rows.call_len_slot (n := l.length) hm.typeIs PySem.F.slot_dict_len (fun Q' hq => len_keyed n.sm hm (by rw [el]; exact hq)) (by omega) (by omega) ?_
    first
      | exact h _ _ (I.tok _)
      | exact fun _ => h _ _ (I.tok _)
theorem dct_truth {a : Addr} {l : List (D × D)} {Q : Bool → Shared → Prop} (I : Inv X pins σ H s) (g : GS X.w ca W μ H) (q : CnD X.w ca W H a false l) (h : ∀ s', Inv X pins σ H s' → Q (!l.isEmpty) s') : wpAny (model X.prog X.w) A (truthy (.ref a)) Q E s := by
  obtain ⟨kvs, e, rk⟩ := q
  refine d_truth I e fun s' I' => ?_
  have : kvs.isEmpty = l.isEmpty := by
    have := rk.length
    cases kvs <;> cases l <;> first | rfl | simp at this
  rw [this]
  exact h s' I'
end
end Mp

/-! The comparisons of Mp.Sem (own work). -/
namespace Mp
open PySem PySem.Spec PyProof.Rows L2

def cOf : COp → CmpOp
  | .lt => .Lt | .le => .LtE | .gt => .Gt | .ge => .GtE | .eq => .Eq | .ne => .NotEq | .is_ => .Is | .isn => .IsNot | .in_ => .In | .nin => .NotIn
/-- the left one: a value for in, a content else -/
def Lf (w : World) (ca : CA) (o : COp) (W : Wd) (H : Hp) (c : D) (x : V) : Prop := match o with
  | .in_ => Rep w ca W c x
  | .nin => Rep w ca W c x
  | _ => Cn w ca W H c x
def rCmp (w : World) (ca : CA) (o : COp) : R2 := fun x y H Q => ∃ W μ c d b, GS w ca W μ H ∧ Lf w ca o W H c x ∧ Cn w ca W H d y ∧ cmpop o c d = some b ∧ Q (.bl b) H
section
variable {X : Cx} {ca : CA}
theorem plains_ints : ∀ (l : List Int), plains 63 (l.map D.int) = true
  | [] => rfl
  | i :: l => by
    show (plain 63 (.int i) && plains 63 (l.map D.int)) = true
    rw [plains_ints l]
    rfl
theorem reps_ints {w : World} {ca : CA} {W : Wd} : ∀ (l : List Int), Reps w ca W (l.map D.int) (l.map V.int)
  | [] => rfl
  | i :: l => ⟨_, _, rfl, rfl, reps_ints l⟩
theorem cn_non {w : World} {W : Wd} {H : Hp} {c : D} {x : V} (h : Cn w ca W H c x) : decide (x = V.non) = isNo c := by
  cases c with
  | non => cases h; rfl
  | bl _ => cases h; rfl
  | int _ => cases h; rfl
  | str _ => cases h; rfl
  | tup _ => obtain ⟨a, vs, rfl, _⟩ := h; rfl
  | lst _ => obtain ⟨a, rfl, _⟩ := h; rfl
  | dct _ _ => obtain ⟨a, rfl, _⟩ := h; rfl
  | obj _ _ => obtain ⟨a, rfl, _⟩ := h; rfl
  | loc _ => exact h.elim
  | scr _ => obtain ⟨a, rfl, _⟩ := h; rfl
theorem str_sign {x : Str} {c : Nat} (h : x.cps.toList = [c]) : x = ⟨#[c]⟩ := by
  obtain ⟨⟨l⟩⟩ := x
  have h : l = [c] := h
  subst h
  rfl
theorem inC_ok (neg : Bool) (hu : X.A.units + 64 < cLine) {pins : List (Addr × Obj)} {s : Shared} {σ : L2.St} {H : Hp} {x y : V} {v u : Value} {Q : VK} {W : Wd} {μ : Mu} {c d : D} {b : Bool}
    (I : Inv X pins σ H s) (rx : RelV x v) (ry : RelV y u) (g : GS X.w ca W μ H) (hc : Rep X.w ca W c x) (hd : Cn X.w ca W H d y) (e : inC c d = some b) (hQ : Q (.bl (if neg then !b else b)) H) :
    wpAny (model X.prog X.w) X.A (compareOp (if neg then .NotIn else .In) v u) (EP X pins σ Q) X.xe s := by
  have seq : ∀ {l : List D} {a : Addr} {vs : List V}, (SqL X.K H a vs ∨ SqT X.K H a vs) → Reps X.w ca W l vs → y = .ref a → inL c l = some b →
      wpAny (model X.prog X.w) X.A (compareOp (if neg then .NotIn else .In) v u) (EP X pins σ Q) X.xe s := fun {l a vs} hs hr ey e => by
    subst ey
    unfold inL at e
    split at e
    · rename_i hf
      rw [Bool.and_eq_true] at hf
      cases e
      obtain ⟨f1, f2⟩ := inL_V hf.1 hc hf.2 hr
      rw [f2] at hQ
      cases neg with
      | false => exact op_in_seq pins s σ H x _ v u Q I rx ry ⟨a, vs, rfl, hs, flat_V hf.1 hc, f1, hQ⟩
      | true => exact op_notIn_seq pins s σ H x _ v u Q I rx ry ⟨a, vs, rfl, hs, flat_V hf.1 hc, f1, hQ⟩
    · cases e
  cases d with
  | lst l =>
    obtain ⟨a, rfl, vs, ea, r⟩ := hd
    exact seq (.inl (SqL.of ea)) r rfl e
  | tup l =>
    obtain ⟨a, vs, rfl, ea, r⟩ := hd
    exact seq (.inr (SqT.of (g.sub _ _ ea))) r rfl e
  | dct k l =>
    obtain ⟨a, rfl, q⟩ := hd
    cases ry
    have e : inD k l c = some b := e
    unfold inD at e
    split at e
    · rename_i hk
      cases e
      cases neg with
      | false => exact dct_in (by omega) I g q hk hc rx fun s' I' => ⟨.bl _, H, I', rfl, hQ⟩
      | true => exact dct_notIn (by omega) I g q hk hc rx fun s' I' => ⟨.bl _, H, I', rfl, hQ⟩
    · cases e
  | str z =>
    cases hd
    cases c with
    | str t =>
      cases hc
      have e : inS t z = some b := e
      unfold inS at e
      split at e
      · rename_i k hk
        cases e
        have ek := str_sign hk
        subst ek
        cases neg with
        | false => exact op_in_sign pins s σ H _ _ v u Q I rx ry ⟨k, z, rfl, rfl, hQ⟩
        | true => exact op_notIn_sign pins s σ H _ _ v u Q I rx ry ⟨k, z, rfl, rfl, hQ⟩
      · cases e
    | _ => cases e
  | _ => cases e
theorem op_cmp (o : COp) (hu : X.A.units + 64 < cLine) : OpR X (compareOp (cOf o)) (rCmp X.w ca o) := by
  intro pins s σ H x y v u Q I rx ry h
  obtain ⟨W, μ, c, d, b, g, hc, hd, e, hQ⟩ := h
  have eqc : ∀ {c d : D} {b : Bool}, eqM c d = some b → plain 64 c = true ∧ plain 64 d = true ∧ b = eqv c d := fun {c d b} e => by
    unfold eqM at e
    split at e
    · rename_i h
      rw [Bool.and_eq_true] at h
      cases e
      exact ⟨h.1, h.2, rfl⟩
    · cases e
  cases o with
  | lt =>
    cases c <;> first | (cases e; done) | skip
    cases d <;> first | (cases e; done) | skip
    cases hc; cases hd; cases e
    exact op_lt pins s σ H _ _ v u Q I rx ry ⟨_, _, rfl, rfl, hQ⟩
  | le =>
    cases c <;> first | (cases e; done) | skip
    cases d <;> first | (cases e; done) | skip
    cases hc; cases hd; cases e
    exact op_le pins s σ H _ _ v u Q I rx ry ⟨_, _, rfl, rfl, hQ⟩
  | gt =>
    cases c <;> first | (cases e; done) | skip
    cases d <;> first | (cases e; done) | skip
    cases hc; cases hd; cases e
    exact op_gt pins s σ H _ _ v u Q I rx ry ⟨_, _, rfl, rfl, hQ⟩
  | ge =>
    cases c <;> first | (cases e; done) | skip
    cases d <;> first | (cases e; done) | skip
    cases hc; cases hd; cases e
    exact op_ge pins s σ H _ _ v u Q I rx ry ⟨_, _, rfl, rfl, hQ⟩
  | eq =>
    obtain ⟨p1, p2, rfl⟩ := eqc (c := c) (d := d) (b := b) (by cases c <;> cases d <;> exact e)
    refine op_eqD hu pins s σ H _ _ v u Q I rx ry ⟨toPy c, toPy d, cn_dp g.sub p1 hc, cn_dp g.sub p2 hd, shaped_of p1, shaped_of p2, ?_⟩
    rw [eqv_toPy 64 64 c d p1 p2]
    exact hQ
  | ne =>
    have e : neM c d = some b := by cases c <;> cases d <;> exact e
    unfold neM at e
    split at e
    · rename_i l _
      cases e
      obtain ⟨a, rfl, hs⟩ := hc
      have rd : SqL X.K H a (l.map V.int) := .inl (hs.imp (g.sub _ _) fun ⟨o, q⟩ => ⟨o, g.sub _ _ q⟩)
      have p1 : plain 64 (.lst (l.map D.int)) = true := plains_ints l
      refine op_neD hu pins s σ H _ _ v u Q I rx ry ⟨toPy (.lst (l.map D.int)), toPy (.lst []), .lst rd (reps_dp g.sub 63 _ _ (plains_ints l) (reps_ints (w := X.w) (ca := ca) (W := W) l)), cn_dp g.sub rfl hd, shaped_of p1, shaped_of rfl, ?_⟩
      rw [eqv_toPy 64 64 _ (.lst []) p1 rfl]
      have e2 : eqv (.lst (l.map D.int)) (.lst []) = l.isEmpty := by cases l <;> rfl
      rw [e2]
      exact hQ
    obtain ⟨b', e1, rfl⟩ := Option.map_eq_some_iff.mp e
    obtain ⟨p1, p2, rfl⟩ := eqc e1
    refine op_neD hu pins s σ H _ _ v u Q I rx ry ⟨toPy c, toPy d, cn_dp g.sub p1 hc, cn_dp g.sub p2 hd, shaped_of p1, shaped_of p2, ?_⟩
    rw [eqv_toPy 64 64 c d p1 p2]
    exact hQ
  | is_ =>
    cases d <;> first | (cases c <;> cases e; done) | skip
    cases hd
    have e : some (isNo c) = some b := by cases c <;> exact e
    cases e
    exact op_isN pins s σ H _ _ v u Q I rx ry ⟨rfl, by rw [cn_non hc]; exact hQ⟩
  | isn =>
    cases d <;> first | (cases c <;> cases e; done) | skip
    cases hd
    have e : some (!isNo c) = some b := by cases c <;> exact e
    cases e
    exact op_notN pins s σ H _ _ v u Q I rx ry ⟨rfl, by rw [cn_non hc]; exact hQ⟩
  | in_ =>
    have e : inC c d = some b := by cases c <;> cases d <;> exact e
    exact inC_ok (neg := false) hu I rx ry g hc hd e hQ
  | nin =>
    have e : (inC c d).map (!·) = some b := by cases c <;> cases d <;> exact e
    obtain ⟨b', e1, rfl⟩ := Option.map_eq_some_iff.mp e
    exact inC_ok (neg := true) hu I rx ry g hc hd e1 hQ
end
end Mp

/-! Expressions: what the text's own tree does is what Mp.Sem says, construct by construct (own work). -/
namespace Mp
open PySem PySem.Spec PyProof.Rows L2

/-- an iterator gives just these values -/
def ItRep (w : World) (ca : CA) (W : Wd) (H : Hp) (J : It) (ds : List D) : Prop :=
  ∀ (i : Nat) (W1 : Wd) (μ1 : Mu) (H1 : Hp), GS w ca W1 μ1 H1 → W.le W1 →
    (∀ d, ds[i]? = some d → J.go i H1 ∧ ∀ x H2, J.yld i H1 x H2 → ∃ W2, GS w ca W2 μ1 H2 ∧ Fr W1 H1 W2 H2 ∧ Rep w ca W2 d x) ∧ (ds.length ≤ i → J.stop i H1)
/-- what a for is to walk -/
def TIt (w : World) (ca : CA) (Wx : WX) (m : Rho → M (List D)) : TI := fun σ H R =>
  ∃ W ρ μ, GS w ca W μ H ∧ SR w ca W H σ ρ ∧ Wp w ca Wx (m ρ) σ W μ H fun W' _ H' ds => ∀ J, ItRep w ca W' H' J ds → R J H'
/-- a target that takes tuples -/
def tgT : Expr → Bool
  | .Tuple .. => true
  | _ => false
/-- an expression does what its denotation says; it: as what a for walks, by a target of the right sort -/
structure Sd (ca : CA) (Wx : WX) (X : Cx) (e : Expr) (n : Den) : Prop where
  v : PE X e (TV X.w ca Wx n.v)
  t : PT X e (TB X.w ca Wx n.t)
  q : PE X e (TQ X.w ca Wx n.q)

/-- its test is its value's truth -/
def plainT : Expr → Bool
  | .UnaryOp .Not _ _ => false
  | .BoolOp .. => false
  | .IfExp .. => false
  | .Compare .. => false
  | _ => true
theorem plainT_ok {e : Expr} (h : plainT e = true) (env : Env) (whole : Sem Value) : isTrue e env whole = (do let v ← whole; standAt e.pos; holding [v] (truthy v)) := by
  cases e with
  | UnaryOp o x p => cases o <;> first | rfl | cases h
  | BoolOp _ _ _ => cases h
  | IfExp _ _ _ _ => cases h
  | Compare _ _ _ _ => cases h
  | _ => rfl
section
variable {ca : CA} {Wx : WX} {X : Cx} {e : Expr}
theorem tru_cn {w : World} {W : Wd} {H : Hp} {K : PySem.W.Frag} {d : D} {v : V} {b : Bool} (g : ∀ a o, W.S a = some o → H a = some o) (h : Cn w ca W H d v) (t : truth d = some b) : TruV K v H b ∨ ∃ a l, d = .dct false l ∧ v = .ref a ∧ CnD w ca W H a false l := by
  cases d with
  | non => cases h; cases t; exact .inl rfl
  | bl x => cases h; cases t; exact .inl rfl
  | int i => cases h; cases t; exact .inl rfl
  | str s =>
    cases h
    have t : (if s.length ≤ line then some (s.length != 0) else none) = some b := t
    split at t
    · rename_i hl
      cases t
      refine .inl ⟨by rw [← line_eq]; exact hl, ?_⟩
      cases hs : s.length with
      | zero => rfl
      | succ n =>
        show (n + 1 != 0) = (((n + 1 : Nat) : Int) != 0)
        rw [Bool.eq_iff_iff]; simp
        omega
    · cases t
  | tup l =>
    obtain ⟨a, vs, rfl, s, r⟩ := h
    cases t
    refine .inl (.inr (.inl ⟨vs, SqT.of (g _ _ s), ?_⟩))
    have := r.length
    cases vs <;> cases l <;> first | rfl | simp at this
  | lst l =>
    obtain ⟨a, rfl, vs, s, r⟩ := h
    cases t
    refine .inl (.inl ⟨vs, SqL.of s, ?_⟩)
    have := r.length
    cases vs <;> cases l <;> first | rfl | simp at this
  | dct k l => cases k with
    | false =>
      obtain ⟨a, rfl, q⟩ := h
      exact .inr ⟨a, l, rfl, rfl, q⟩
    | true => cases t
  | _ => first | exact h.elim | cases t
theorem truth_ok {pins : List (Addr × Obj)} {s : Shared} {σ : L2.St} {H : Hp} {W : Wd} {μ : Mu} {d : D} {x : V} {u : Value} {b : Bool} {Q : Bool → Hp → Prop} (I : Inv X pins σ H s) (g : GS X.w ca W μ H) (rx : RelV x u) (h : Cn X.w ca W H d x) (t : truth d = some b) (hQ : Q b H) :
    wpAny (model X.prog X.w) X.A (truthy u) (TP X pins σ Q) X.xe s := by
  rcases tru_cn (K := X.K) g.sub h t with q | ⟨a, l, rfl, rfl, q⟩
  · exact tru_ok pins s σ H x u Q I rx ⟨b, q, hQ⟩
  · cases rx
    cases t
    exact dct_truth I g q fun s' I' => ⟨H, I', hQ⟩
/-- the test of an expression whose test is its value's truth -/
theorem pt_plain {q : Rho → M Q} (h : PE X e (TQ X.w ca Wx q)) (hp : plainT e = true) : PT X e (TB X.w ca Wx fun ρ => do
    let q ← q ρ
    let c ← cont ρ q
    truthM c) := by
  refine ⟨fun pins s σ H Q I hw => ?_⟩
  obtain ⟨W, ρ, μ, g, r, hw⟩ := hw
  refine isTrue_plain (thn (h.run pins s σ H (fun x H1 => ∃ W1 μ1 d b, GS X.w ca W1 μ1 H1 ∧ Cn X.w ca W1 H1 d x ∧ truth d = some b ∧ Q b H1) I ⟨W, ρ, μ, g, r, hw.bind.imp fun W1 μ1 H1 q g1 f1 h1 x rq => ?_⟩) fun u s1 ⟨x, H1, I1, r1, W1, μ1, d, b, g1, hc, ht, hQ⟩ => ?_) (plainT_ok hp _ _)
  · obtain ⟨c, hc, h2⟩ := cont_ok g1 (r.fr f1) rq h1
    obtain ⟨b, hb, h3⟩ := h2.some
    exact ⟨W1, μ1, c, b, g1, hc, hb, h3 W1 H1 g1 (Mp.Fr.refl W1 H1) b rfl⟩
  · exact truth_ok I1 g1 r1 hc ht hQ
theorem Sd.q_of {v : Rho → M D} (h : PE X e (TV X.w ca Wx v)) : PE X e (TQ X.w ca Wx fun ρ => do
    let d ← v ρ
    M.ret (.val d)) :=
  PE.of h fun σ H K ⟨W, ρ, μ, g, r, hw⟩ => ⟨W, ρ, μ, g, r, hw.bind.imp fun W1 μ1 H1 d g1 f1 h1 x rx => h1.ret g1 x rx⟩
theorem Sd.ofV {v : Rho → M D} (h : PE X e (TV X.w ca Wx v)) (hp : plainT e = true) : Sd ca Wx X e (Den.ofV v) :=
  ⟨h, PT.of (pt_plain (Sd.q_of h) hp) fun σ H K ⟨W, ρ, μ, g, r, hw⟩ => ⟨W, ρ, μ, g, r, by
    have e : (do let q ← (do let d ← v ρ; M.ret (Mp.Q.val d)); let c ← cont ρ q; truthM c : M Bool) = (do let d ← v ρ; let c ← content d; truthM c) := by
      funext μ
      show ((v ρ μ).bind _).bind _ = (v ρ μ).bind _
      cases v ρ μ <;> rfl
    show Wp X.w ca Wx (do let q ← (do let d ← v ρ; M.ret (Mp.Q.val d)); let c ← cont ρ q; truthM c) σ W μ H _
    rw [e]
    exact hw⟩, Sd.q_of h⟩
end
end Mp

/-! Expressions, construct by construct (own work). -/
namespace Mp
open PySem PySem.Spec PyProof.Rows L2

section
variable {ca : CA} {Wx : WX} {X : Cx} {e a b c : Expr} {na nb nc : Den} {pos : Pos}

theorem slot_dat {w : World} {W : Wd} {H : Hp} {σ : L2.St} {ρ : Rho} {i : Nat} {d : D} (r : SR w ca W H σ ρ) (h : ρ[i]? = some (some (.dat d))) : ∃ v, σ[i]? = some (some v) ∧ Rep w ca W d v := r.at_ i _ h
theorem Sd.var {i : Nat} {x : PySem.Str} (hN : X.N[i]? = some x) (hv : Vis X.env.scope x) (hd : (x == ("__debug__" : PySem.Str)) = false) (hcd : (x == ("__classdict__" : PySem.Str)) = false) : Sd ca Wx X (.Name x pos) (Dn.var i) := by
  have hp := pe_var (pos := pos) hN hv hd hcd
  have q : PE X (.Name x pos) (TQ X.w ca Wx fun ρ => refVar ρ i) := PE.of hp fun σ H K ⟨W, ρ, μ, g, r, hw⟩ => by
    have hw : Wp X.w ca Wx (refVar ρ i) σ W μ H fun W' _ H' q => ∀ v, RepQ X.w ca W' H' σ ρ q v → K v H' := hw
    unfold refVar at hw
    cases e : ρ[i]? with
    | none => rw [e] at hw; exact (Wp.bad hw).elim
    | some o => cases o with
      | none => rw [e] at hw; exact (Wp.bad hw).elim
      | some o => cases o with
        | dat d =>
          rw [e] at hw
          obtain ⟨v, h1, h2⟩ := slot_dat r e
          exact ⟨v, h1, hw.ret g v h2⟩
        | own d =>
          rw [e] at hw
          obtain ⟨v, h1, _⟩ := r.at_ i _ e
          exact ⟨v, h1, hw.ret g v h1⟩
  refine ⟨PE.of hp fun σ H K ⟨W, ρ, μ, g, r, hw⟩ => ?_, pt_plain q rfl, q⟩
  have hw : Wp X.w ca Wx (valOf ρ i) σ W μ H fun W' _ H' d => ∀ v, Rep X.w ca W' d v → K v H' := hw
  unfold valOf at hw
  cases e : ρ[i]? with
  | none => rw [e] at hw; exact (Wp.bad hw).elim
  | some o => cases o with
    | none => rw [e] at hw; exact (Wp.bad hw).elim
    | some o => cases o with
      | dat d =>
        rw [e] at hw
        obtain ⟨v, h1, h2⟩ := slot_dat r e
        exact ⟨v, h1, hw.ret g v h2⟩
      | own d => rw [e] at hw; exact (Wp.bad hw).elim
/-- an expression that gives an atom, come what may -/
theorem pe_atom {d : D} {v : V} (h : PE X e (tC v)) (hr : ∀ W, Rep X.w ca W d v) : PE X e (TV X.w ca Wx fun _ => M.ret d) :=
  PE.of h fun σ H K ⟨W, ρ, μ, g, r, hw⟩ => Wp.ret hw g v (hr W)
theorem Sd.int {i : Int} {j} : Sd ca Wx X (.Constant (.int i) j pos) (Dn.cst (.int i)) := .ofV (pe_atom pe_int fun _ => rfl) rfl
theorem Sd.bl {x : Bool} {j} : Sd ca Wx X (.Constant (.bool x) j pos) (Dn.cst (.bl x)) := .ofV (pe_atom pe_bl fun _ => rfl) rfl
theorem Sd.non {j} : Sd ca Wx X (.Constant .none j pos) (Dn.cst .non) := .ofV (pe_atom pe_non fun _ => rfl) rfl
theorem Sd.str {x : PySem.Str} {j} : Sd ca Wx X (.Constant (.str x) j pos) (Dn.cst (.str x)) := .ofV (pe_atom pe_str fun _ => rfl) rfl
theorem Sd.glob {x : PySem.Str} {d : D} {v : V} {u : Value} (hg : Gl X x) (hm : X.mg x = some u) (r : RelV v u) (hd : (x == ("__debug__" : PySem.Str)) = false) (hr : ∀ W, Rep X.w ca W d v) : Sd ca Wx X (.Name x pos) (Dn.cst d) :=
  .ofV (pe_atom (pe_glob hg hm r hd) hr) rfl
theorem Sd.bin {o : BOp} (ha : Sd ca Wx X a na) (hb : Sd ca Wx X b nb) : Sd ca Wx X (.BinOp a (opOf o) b pos) (Dn.bin o na nb) := by
  refine .ofV (PE.of (pe_op (op_bin (ca := ca) o) ha.q hb.q) fun σ H K ⟨W, ρ, μ, g, r, hw⟩ => ?_) rfl
  refine ⟨W, ρ, μ, g, r, hw.bind.imp fun W1 μ1 H1 x g1 f1 h1 v rv => ⟨W1, ρ, μ1, g1, r.fr f1, h1.bind.imp fun W2 μ2 H2 y g2 f2 h2 u ru => ?_⟩⟩
  obtain ⟨c, hc, h3⟩ := cont_ok g2 (r.fr (f1.trans f2)) (rv.fr f2) h2
  obtain ⟨d, hd, h4⟩ := cont_ok g2 (r.fr (f1.trans f2)) ru h3
  obtain ⟨e, he, h5⟩ := h4.some
  exact ⟨W2, μ2, c, d, e, g2, hc, hd, he, fun W' H' v g' f' rv => h5 W' H' g' f' v rv⟩
theorem leftOf_ok {w : World} {W : Wd} {μ : Mu} {H : Hp} {σ : L2.St} {ρ : Rho} {o : COp} {q : Q} {v : V} {α : Type} {f : D → M α} {P : Wd → Mu → Hp → α → Prop} (g : GS w ca W μ H) (s : SR w ca W H σ ρ) (r : RepQ w ca W H σ ρ q v)
    (h : Wp w ca Wx (leftOf ρ o q >>= f) σ W μ H P) : ∃ c, Lf w ca o W H c v ∧ Wp w ca Wx (f c) σ W μ H P := by
  have val : Wp w ca Wx (valQ q >>= f) σ W μ H P → ∃ c, Rep w ca W c v ∧ Wp w ca Wx (f c) σ W μ H P := fun h => by
    cases q with
    | val d => exact ⟨d, r, h⟩
    | slot i => exact (Wp.bad (α := α) h).elim
  cases o with
  | in_ => exact val h
  | nin => exact val h
  | _ => exact cont_ok g s r h
theorem cmp_read {o : COp} {na nb : Den} {σ : L2.St} {H : Hp} {K : Bool → Hp → Prop} (h : TB X.w ca Wx (evC o na nb) σ H K) : tOp (rCmp X.w ca o) (TQ X.w ca Wx na.q) (TQ X.w ca Wx nb.q) σ H fun x H' => ∃ k, x = .bl k ∧ K k H' := by
  obtain ⟨W, ρ, μ, g, r, hw⟩ := h
  have hw : Wp X.w ca Wx (do
    let x ← na.q ρ
    let y ← nb.q ρ
    let x ← leftOf ρ o x
    let y ← cont ρ y
    M.some? (cmpop o x y)) σ W μ H _ := hw
  refine ⟨W, ρ, μ, g, r, hw.bind.imp fun W1 μ1 H1 x g1 f1 h1 v rv => ⟨W1, ρ, μ1, g1, r.fr f1, h1.bind.imp fun W2 μ2 H2 y g2 f2 h2 u ru => ?_⟩⟩
  obtain ⟨c, hc, h3⟩ := leftOf_ok g2 (r.fr (f1.trans f2)) (rv.fr f2) h2
  obtain ⟨d, hd, h4⟩ := cont_ok g2 (r.fr (f1.trans f2)) ru h3
  obtain ⟨b, hb, h5⟩ := h4.some
  exact ⟨W2, μ2, c, d, b, g2, hc, hd, hb, b, rfl, h5 W2 H2 g2 (Mp.Fr.refl W2 H2) b rfl⟩
def notSet : Expr → Bool
  | .Set .. => false
  | _ => true
theorem notSet_ok {op : CmpOp} {e : Expr} (h : notSet e = true) : behindInMarks op e = false := by
  cases e <;> first | rfl | cases h
theorem Wp.map_bl {w : World} {σ : L2.St} {W : Wd} {μ : Mu} {H : Hp} {m : M Bool} {K : V → Hp → Prop} (h : Wp w ca Wx (do let c ← m; M.ret (D.bl c)) σ W μ H fun W' _ H' d => ∀ v, Rep w ca W' d v → K v H') :
    Wp w ca Wx m σ W μ H fun _ _ H' b => K (.bl b) H' :=
  h.bind.imp fun W1 μ1 H1 b g1 f1 h1 => h1.ret g1 _ rfl
theorem Sd.cmp {o : COp} (hu : X.A.units + 64 < cLine) (ha : Sd ca Wx X a na) (hb : Sd ca Wx X b nb) (hs : notSet b = true) : Sd ca Wx X (.Compare a [cOf o] [b] pos) (Dn.cmp o na nb) := by
  have v : PE X (.Compare a [cOf o] [b] pos) (TV X.w ca Wx fun ρ => do
    let c ← evC o na nb ρ
    M.ret (.bl c)) := PE.of (pe_cmpR (op_cmp (ca := ca) o hu) ha.q hb.q (notSet_ok hs)) fun σ H K ⟨W, ρ, μ, g, r, hw⟩ => by
      have q := cmp_read (K := fun b H' => K (.bl b) H') ⟨W, ρ, μ, g, r, (Wp.map_bl hw).imp fun W1 μ1 H1 b g1 f1 h1 b' e => by subst e; exact h1⟩
      obtain ⟨W, ρ, μ, g, r, hw⟩ := q
      refine ⟨W, ρ, μ, g, r, hw.imp fun W1 μ1 H1 x g1 f1 h1 v rv => ?_⟩
      obtain ⟨W2, ρ2, μ2, g2, r2, hw2⟩ := h1 v rv
      refine ⟨W2, ρ2, μ2, g2, r2, hw2.imp fun W3 μ3 H3 x g3 f3 h3 v rv => ?_⟩
      obtain ⟨W4, μ4, c, d, b, g4, hc, hd, hb, k, ek, hk⟩ := h3 v rv
      cases ek
      exact ⟨W4, μ4, c, d, b, g4, hc, hd, hb, hk⟩
  exact ⟨v, PT.of (pt_cmpR (op_cmp (ca := ca) o hu) ha.q hb.q (notSet_ok hs)) fun σ H K h => cmp_read h, Sd.q_of v⟩
theorem Sd.not_ (ha : Sd ca Wx X a na) : Sd ca Wx X (.UnaryOp .Not a pos) (Dn.not_ na) := by
  have v : PE X (.UnaryOp .Not a pos) (TV X.w ca Wx fun ρ => do
    let q ← na.q ρ
    let c ← cont ρ q
    let b ← truthM c
    M.ret (.bl (!b))) := by
    refine ⟨fun pins s σ H K I hw => ?_⟩
    obtain ⟨W, ρ, μ, g, r, hw⟩ := hw
    refine UnaryOp_ (thn (ha.q.run pins s σ H (fun x H1 => ∃ W1 μ1 d b, GS X.w ca W1 μ1 H1 ∧ Cn X.w ca W1 H1 d x ∧ truth d = some b ∧ K (.bl (!b)) H1) I ⟨W, ρ, μ, g, r, hw.bind.imp fun W1 μ1 H1 q g1 f1 h1 x rq => ?_⟩) fun u s1 ⟨x, H1, I1, r1, W1, μ1, d, b, g1, hc, ht, hQ⟩ => ?_)
    · obtain ⟨c, hc, h2⟩ := cont_ok g1 (r.fr f1) rq h1
      obtain ⟨b, hb, h3⟩ := h2.bind.some
      exact ⟨W1, μ1, c, b, g1, hc, hb, (h3 W1 H1 g1 (Mp.Fr.refl W1 H1)).ret g1 _ rfl⟩
    · exact not_of (thn (truth_ok (Q := fun c H2 => K (.bl (!c)) H2) I1 g1 r1 hc ht hQ) fun c s2 ⟨H2, I2, q2⟩ => ⟨.bl (!c), H2, I2, rfl, q2⟩)
  exact ⟨v, PT.of (pt_not ha.t) fun σ H K ⟨W, ρ, μ, g, r, hw⟩ => ⟨W, ρ, μ, g, r, hw.bind.imp fun W1 μ1 H1 b g1 f1 h1 b' e => by subst e; exact h1.ret g1 _ rfl⟩, Sd.q_of v⟩
theorem Sd.ite (hc : Sd ca Wx X c nc) (ha : Sd ca Wx X a na) (hb : Sd ca Wx X b nb) : Sd ca Wx X (.IfExp c a b pos) (Dn.ite nc na nb) := by
  have v : PE X (.IfExp c a b pos) (TV X.w ca Wx fun ρ => do
    let k ← nc.t ρ
    if k then na.v ρ else nb.v ρ) := PE.of (pe_ifExp hc.t ha.v hb.v) fun σ H K ⟨W, ρ, μ, g, r, hw⟩ => by
      refine ⟨W, ρ, μ, g, r, hw.bind.imp fun W1 μ1 H1 k g1 f1 h1 k' e => ?_⟩
      subst e
      cases k' with
      | true => rw [if_pos rfl] at h1 ⊢; exact ⟨W1, ρ, μ1, g1, r.fr f1, h1⟩
      | false => rw [if_neg Bool.false_ne_true] at h1 ⊢; exact ⟨W1, ρ, μ1, g1, r.fr f1, h1⟩
  refine ⟨v, ⟨fun pins s σ H K I ⟨W, ρ, μ, g, r, hw⟩ => ?_⟩, Sd.q_of v⟩
  rw [arm_isTrue_IfExp]
  refine wpAny_bind (thn (hc.t.run pins s σ H (fun k H1 => ∃ W1 μ1, GS X.w ca W1 μ1 H1 ∧ SR X.w ca W1 H1 σ ρ ∧ Wp X.w ca Wx (if k then na.t ρ else nb.t ρ) σ W1 μ1 H1 fun _ _ H' a => ∀ b, b = a → K b H') I ⟨W, ρ, μ, g, r, hw.bind.imp fun W1 μ1 H1 k g1 f1 h1 k' e => by
      subst e; exact ⟨W1, μ1, g1, r.fr f1, h1⟩⟩) fun k s1 ⟨H1, I1, W1, μ1, g1, r1, h1⟩ => ?_)
  cases k with
  | true => rw [if_pos rfl] at h1 ⊢; exact ha.t.run pins s1 σ H1 K I1 ⟨W1, ρ, μ1, g1, r1, h1⟩
  | false => rw [if_neg Bool.false_ne_true] at h1 ⊢; exact hb.t.run pins s1 σ H1 K I1 ⟨W1, ρ, μ1, g1, r1, h1⟩
theorem Sd.neg (ha : Sd ca Wx X a na) : Sd ca Wx X (.UnaryOp .USub a pos) (Dn.neg na) :=
  .ofV (PE.of (pe_un un_neg ha.v) fun σ H K ⟨W, ρ, μ, g, r, hw⟩ => ⟨W, ρ, μ, g, r, hw.bind.imp fun W1 μ1 H1 x g1 f1 h1 v rv => by
    cases x <;> first | exact (Wp.bad h1).elim | skip
    cases rv
    exact ⟨_, rfl, h1.ret g1 _ rfl⟩⟩) rfl
end
end Mp

/-! A star before d.values() (own work). -/
namespace Mp
open PySem PySem.Spec PyProof.Rows L2

section
variable {X : Cx} {pins : List (Addr × Obj)} {σ : L2.St} {H : Hp} {s : Shared}
theorem items_vals {κ : Type} {kvs : List (κ × V)} {vs : List (κ × Value)} (r : KV kvs vs) : ∀ {us : List Value}, us.length = vs.length → (∀ (j : Nat) (v : Value), us[j]? = some v → ∃ k, vs[j]? = some (k, v)) → Vals (kvs.map (·.2)) us := by
  unfold KV at r
  induction r with
  | nil =>
    intro us hl _
    cases us with
    | nil => exact .nil
    | cons => simp at hl
  | cons r t ih =>
    intro us hl h
    cases us with
    | nil => simp at hl
    | cons u us =>
      obtain ⟨k, e⟩ := h 0 u rfl
      have e := Option.some.inj (show some _ = some (k, u) from e)
      refine .cons ?_ (ih (by simpa using hl) fun j v q => h (j + 1) v q)
      have r2 := r.2
      rw [e] at r2
      exact r2
theorem star_vals {d v : Addr} {o : Obj} {kvs : List (Key × V)} {E : Value → Shared → Prop} {Q : List Value → Shared → Prop} (hc : X.calm = true) (I : Inv X pins σ H s) (hd : H d = some (.frz o (.dK kvs))) (hl : kvs.length ≤ sizeLine)
    (hv : s.heap.get? v = some { cls := .type "dict_values", data := .fields #[.ref d] }) (hQ : ∀ us s', Inv X pins σ H s' → Vals (kvs.map (·.2)) us → Q us s') : PySem.W.StarOf (model X.prog X.w) X.A E (.ref v) Q s := by
  obtain ⟨hs, hgd, hx, es, ep, vs, hdt, hsz, kv, hm⟩ := I.frzK hd
  have hlv : kvs.length = vs.length := Paired.length kv
  have hT : s.TypeIs (.ref v) "dict_values" := ⟨_, hv, rfl⟩
  have z : wpAny (model X.prog X.w) X.A (collect (.ref v)) Q E s := by
    refine PySem.W.kdu_collect (PySem.W.kdl_values (knd := mixKind X.prog X.w) (kvs := vs) (ep := ep) (r := v)) (I.ok.hd hc) ⟨⟨_, hv, rfl, rfl⟩, hm⟩ (by rw [← hlv]; exact hl) fun h' tk acc hk hacc => ?_
    exact hQ _ _ (I.kept hk) (items_vals kv (by rw [Array.length_toList]; exact hacc.1) fun j u e => hacc.2 j u (by rw [← Array.getElem?_toList]; exact e))
  unfold PySem.W.StarOf notIterableAtAll
  exact wpAny_bind (wpAny_specialOf hT PySem.F.slot_dict_values_iter.lookup (wpAny_pure ⟨rfl, z⟩))
end
/-- *d.values(), then the rest -/
def tStarV (te : TE) (t : TA) : TA := fun σ H Q => te σ H fun x H1 => ∃ d o kvs, x = V.ref d ∧ H1 d = some (.frz o (.dK kvs)) ∧ kvs.length ≤ sizeLine ∧ t σ H1 fun ys H2 => Q (kvs.map (·.2) ++ ys) H2
theorem pa_starV {X : Cx} {e : Expr} {es : List Expr} {te : TE} {t : TA} {p apos cpos : Pos} (hc : X.calm = true) (he : PE X e te) (hr : PA X es t) (hbase : attributeBase e "values" X.env (eval e X.env) = eval e X.env) (hline : (apos.endLine == cpos.line) = true) :
    PA X (.Starred (.Call (.Attribute e "values" apos) [] [] cpos) p :: es) (tStarV te t) := by
  refine ⟨fun pos pins s σ H Q I h => ?_⟩
  refine PySem.W.items_star ?_ rfl
  refine wpAny_Call_method (T := "dict") (id := "dict.values") hbase rfl hline PySem.F.plainAttrs_dict PySem.F.slot_dict_values PySem.F.type_dict_values (thn (he.run pins s σ H _ I h) fun u s1 ⟨x, H1, I1, rx, d, o, kvs, ex, hd, hl, q⟩ => ?_)
  subst ex
  obtain rfl : u = Value.ref d := rx
  obtain ⟨hs, hgd, hx, es', ep, vs, hdt, hsz, kv, hm⟩ := I1.frzK hd
  refine ⟨hm.dictOf.typeIs, hm.dictOf.mapOf.noDict, ?_⟩
  have I2 : Inv X pins σ H1 { s1 with heap := s1.heap.push { cls := .type "dict_values", data := .fields #[.ref d] } } := I1.kept (t' := s1.toks) fun b ob q => Heap.get?_push_of_some _ q
  have fin : PySem.W.StarOf (model X.prog X.w) X.A X.xe (.ref s1.heap.objs.size) (fun here s₂ => wpAny (model X.prog X.w) X.A (spliced (backTo pos (starEach es X.env))) (fun vs s₃ => AP X pins σ Q (here ++ vs) s₃) X.xe s₂)
      { s1 with heap := s1.heap.push { cls := .type "dict_values", data := .fields #[.ref d] } } := by
    refine star_vals hc I2 hd hl (Heap.get?_push_size _ rfl) fun us s2 I3 rv => ?_
    exact thn (hr.run pos pins s2 σ H1 _ I3 q) fun ws s3 ⟨vs, H3, I4, r3, q3⟩ => ⟨_, H3, I4, rv.append r3, q3⟩
  show wpAny _ _ (callWith cpos (.builtin "dict.values") [.ref d] [] []) _ X.xe s1
  exact method_meetsIn PySem.F.slot_dict_values PySem.F.entry_dict_values rfl (PySem.evalArgs_none ⟨rfl, hm.dictOf.typeIs, PySem.F.args_dict_values_1 _, _, meets_dict_values (mixKind X.prog X.w) d hs, ⟨vs, hm.dictOf⟩, fin⟩)
end Mp

/-! Lists of expressions: and, or, displays, arguments (own work). -/
namespace Mp
open PySem PySem.Spec PyProof.Rows L2

def isStar : Expr → Bool
  | .Starred .. => true
  | _ => false
/-- expressions side by side with what they do; the flag: a star stands ahead -/
inductive SdL (ca : CA) (Wx : WX) (X : Cx) : List Expr → Dens → Prop
  | nil : SdL ca Wx X [] []
  | cons {e : Expr} {n : Den} {es : List Expr} {ns : Dens} (h : Sd ca Wx X e n) (hs : isStar e = false) (t : SdL ca Wx X es ns) : SdL ca Wx X (e :: es) ((false, n) :: ns)
  | star {e : Expr} {n : Den} {es : List Expr} {ns : Dens} {p : Pos} (h : Sd ca Wx X e n) (t : SdL ca Wx X es ns) : SdL ca Wx X (.Starred e p :: es) ((true, n) :: ns)
  | starV {e : Expr} {n : Den} {es : List Expr} {ns : Dens} {p apos cpos : Pos} (hc : X.calm = true) (h : Sd ca Wx X e n) (hbase : attributeBase e "values" X.env (eval e X.env) = eval e X.env) (hline : (apos.endLine == cpos.line) = true) (t : SdL ca Wx X es ns) :
    SdL ca Wx X (.Starred (.Call (.Attribute e "values" apos) [] [] cpos) p :: es) ((true, Dn.vals n) :: ns)
theorem starEach_cons {e : Expr} {es : List Expr} {env : Env} (h : isStar e = false) : starEach (e :: es) env = (false, eval e env) :: starEach es env := by
  cases e <;> first | rfl | cases h
theorem starEach_star {e : Expr} {p : Pos} {es : List Expr} {env : Env} : starEach (.Starred e p :: es) env = (true, eval e env) :: starEach es env := rfl
/-- no star among them -/
def plainA : Dens → Bool
  | [] => true
  | (s, _) :: r => !s && plainA r
section
variable {ca : CA} {Wx : WX} {X : Cx} {pos : Pos}
theorem SdL.noStar {es : List Expr} {ns : Dens} (h : SdL ca Wx X es ns) (hp : plainA ns = true) : (backTo pos (starEach es X.env)).any (·.1) = false := by
  induction h with
  | nil => rfl
  | cons h hs t ih =>
    rw [starEach_cons hs]
    show (false || (backTo pos (starEach _ X.env)).any (·.1)) = false
    rw [ih hp]; rfl
  | star h t ih => cases hp
  | starV hc h hb hl t ih => cases hp
theorem sized_ok {w : World} {W : Wd} {μ : Mu} {H : Hp} {σ : L2.St} {α : Type} {l : List D} {f : Unit → M α} {P : Wd → Mu → Hp → α → Prop} (h : Wp w ca Wx (sized l >>= f) σ W μ H P) : l.length ≤ sizeLine ∧ Wp w ca Wx (f ()) σ W μ H P := by
  unfold sized at h
  split at h
  · rename_i hl
    exact ⟨by rw [← line_eq]; exact hl, h⟩
  · exact (Wp.bad (α := α) h).elim
theorem reps_vals {w : World} {W : Wd} : ∀ {l : List (D × D)} {kvs : List (Key × V)}, RepK w ca W l kvs → Reps w ca W (l.map (·.2)) (kvs.map (·.2))
  | [], _, e => by
    have e : _ = [] := e
    subst e
    rfl
  | p :: l, _, r => by
    obtain ⟨x, v, q, rfl, _, b, c⟩ := r
    exact ⟨v, q.map (·.2), rfl, b, reps_vals c⟩
theorem SdL.pa {es : List Expr} {ns : Dens} (h : SdL ca Wx X es ns) : PA X es (TL X.w ca Wx fun ρ => evs ρ ns) := by
  induction h with
  | nil =>
    exact PA.of pa_nil fun σ H K ⟨W, ρ, μ, g, r, hw⟩ => Wp.ret hw g [] rfl
  | cons h hs t ih =>
    rename_i e n es ns
    refine PA.of (pa_cons h.v ih (starEach_cons hs)) fun σ H K ⟨W, ρ, μ, g, r, hw⟩ => ?_
    have hw : Wp X.w ca Wx (do
      let d ← n.v ρ
      let l ← splice false d
      let m ← evs ρ ns
      M.ret (l ++ m)) σ W μ H _ := hw
    refine ⟨W, ρ, μ, g, r, hw.bind.imp fun W1 μ1 H1 d g1 f1 h1 v rv => ?_⟩
    have h1 : Wp X.w ca Wx (do
      let m ← evs ρ ns
      M.ret ([d] ++ m)) σ W1 μ1 H1 _ := h1
    exact ⟨W1, ρ, μ1, g1, r.fr f1, h1.bind.imp fun W2 μ2 H2 m g2 f2 h2 vs rvs => h2.ret g2 (v :: vs) ⟨v, vs, rfl, Rep.mono f2.le d v rv, rvs⟩⟩
  | star h t ih =>
    rename_i e n es ns p
    refine PA.of (StX.pa_star h.v ih starEach_star) fun σ H K ⟨W, ρ, μ, g, r, hw⟩ => ?_
    have hw : Wp X.w ca Wx (do
      let d ← n.v ρ
      let l ← splice true d
      let m ← evs ρ ns
      M.ret (l ++ m)) σ W μ H _ := hw
    refine ⟨W, ρ, μ, g, r, hw.bind.imp fun W1 μ1 H1 d g1 f1 h1 v rv => ?_⟩
    have h1 : Wp X.w ca Wx ((do
      let c ← content d
      match c with
      | .lst l => M.ret l
      | .tup l => M.ret l
      | _ => M.bad) >>= fun l => do
      let m ← evs ρ ns
      M.ret (l ++ m)) σ W1 μ1 H1 _ := h1
    obtain ⟨c, hc, _, h2⟩ := content_ok g1 rv h1.bind.bind
    have h2 := h2 W1 H1 g1 (Mp.Fr.refl W1 H1)
    cases c with
    | lst l =>
      obtain ⟨a, rfl, vs, ea, rl⟩ := hc
      have h3 := h2.ret g1
      exact ⟨a, vs, rfl, .inr (SqL.of ea), W1, ρ, μ1, g1, r.fr f1, h3.bind.imp fun W2 μ2 H2 m g2 f2 h4 us rus => h4.ret g2 (vs ++ us) ((Reps.mono f2.le l vs rl).append rus)⟩
    | tup l =>
      obtain ⟨a, vs, rfl, ea, rl⟩ := hc
      have h3 := h2.ret g1
      exact ⟨a, vs, rfl, .inl (SqT.of (g1.sub _ _ ea)), W1, ρ, μ1, g1, r.fr f1, h3.bind.imp fun W2 μ2 H2 m g2 f2 h4 us rus => h4.ret g2 (vs ++ us) ((Reps.mono f2.le l vs rl).append rus)⟩
    | _ => exact (Wp.bad h2).elim
  | starV hc h hb hl t ih =>
    rename_i e n es ns p apos cpos
    refine PA.of (pa_starV hc h.v ih hb hl) fun σ H K ⟨W, ρ, μ, g, r, hw⟩ => ?_
    have hw : Wp X.w ca Wx ((do
      let x ← n.v ρ
      let l ← valsM x
      sized l
      M.ret (.lst l)) >>= fun d => do
      let l ← splice true d
      let m ← evs ρ ns
      M.ret (l ++ m)) σ W μ H _ := hw
    refine ⟨W, ρ, μ, g, r, hw.bind.bind.imp fun W1 μ1 H1 d g1 f1 h1 v rv => ?_⟩
    cases d <;> first | exact (Wp.bad h1).elim | skip
    rename_i k l
    cases k with
    | true => exact (Wp.bad h1).elim
    | false =>
      obtain ⟨ad, od, kvs, rfl, ea, rk⟩ := rv
      have h1 : Wp X.w ca Wx (sized (l.map (·.2)) >>= fun _ => M.ret (D.lst (l.map (·.2)))) σ W1 μ1 H1 _ := h1
      obtain ⟨hl, h2⟩ := sized_ok h1
      have h3 : Wp X.w ca Wx (evs ρ ns >>= fun m => M.ret (l.map (·.2) ++ m)) σ W1 μ1 H1 _ := h2.ret g1
      have hk := rk.length
      exact ⟨ad, od, kvs, rfl, g1.sub _ _ ea, by rw [hk]; rw [List.length_map] at hl; exact hl, W1, ρ, μ1, g1, r.fr f1, h3.bind.imp fun W2 μ2 H2 m g2 f2 h4 us rus => h4.ret g2 (kvs.map (·.2) ++ us) ((Reps.mono f2.le _ _ (reps_vals rk)).append rus)⟩
theorem Sd.tup {es : List Expr} {ns : Dens} {x1 : Nat} (h : SdL ca Wx X es ns) : Sd ca Wx X (.Tuple es x1 pos) (Dn.tup ns) := by
  refine .ofV (PE.of (pe_tup h.pa) fun σ H K ⟨W, ρ, μ, g, r, hw⟩ => ⟨W, ρ, μ, g, r, hw.bind.imp fun W1 μ1 H1 ds g1 f1 h1 vs rvs => ?_⟩) rfl
  obtain ⟨hl, h2⟩ := sized_ok h1
  exact ⟨by rw [rvs.length]; exact hl, fun p hp => out_tup g1 hp rvs fun W' H' v g' f' rv => h2 W' H' g' f' v rv⟩
/-- a new list: what stands at its address is told -/
def TNew (w : World) (ca : CA) (Wx : WX) (m : Rho → M D) : TE := fun σ H K =>
  ∃ W ρ μ, GS w ca W μ H ∧ SR w ca W H σ ρ ∧ Wp w ca Wx (m ρ) σ W μ H fun W' _ H' d => ∀ p o, H' p = none → At w ca W' (upd H' p o) p d → K (.ref p) (upd H' p o)
theorem pe_lock' {e : Expr} {t : TE} (h : PE X e t) : PE X e fun σ H K => t σ H fun v H1 => ∃ d u, v = .ref d ∧ H1 d = some u ∧ Mut (some u) ∧ ∀ od, K v (upd H1 d (.frz od u)) := by
  refine ⟨fun pins s σ H K I hw => thn (h.run pins s σ H _ I hw) fun u s1 ⟨v, H1, I1, rv, d, o, ev, e1, mu, k⟩ => ?_⟩
  subst ev
  obtain ⟨od, I2⟩ := I1.lock e1 mu
  exact ⟨_, _, I2, rv, k od⟩
theorem at_beside {w : World} {W : Wd} {H : Hp} {p : Addr} {o : HO} {d : D} (hs : W.S p = none) (h : At w ca W (upd H p o) p d) : At w ca (W.add p o) (W.add p o).S p d := by
  refine At.mono (Wd.le_add hs) (fun u e => ?_) d h
  show upd W.S p o p = some u
  rw [upd_same] at e ⊢
  exact e
theorem upd_upd' {H : Hp} {p : Addr} {o u : HO} : upd (upd H p o) p u = upd H p u := upd_upd
/-- a new list or dict, as a value -/
theorem pe_new {e : Expr} {m : Rho → M D} (h : PE X e (TNew X.w ca Wx m)) : PE X e (TV X.w ca Wx m) := by
  refine ⟨fun pins s σ H K I ⟨W, ρ, μ, g, r, hw⟩ => ?_⟩
  -- a list, an instance: as it stands; a dict of atoms: locked
  cases em : m ρ μ with
  | bad => unfold Wp at hw; rw [em] at hw; exact hw.elim
  | exc x μ' =>
    refine (PE.of h (t' := fun σ' H' K' => σ' = σ ∧ H' = H ∧ K' = K) fun σ' H' K' ⟨e1, e2, e3⟩ => ?_).run pins s σ H K I ⟨rfl, rfl, rfl⟩
    subst e1 e2 e3
    refine ⟨W, ρ, μ, g, r, ?_⟩
    unfold Wp at hw ⊢
    rw [em] at hw ⊢
    exact hw
  | ok d μ' =>
    have hw' : ∀ W' H', GS X.w ca W' μ' H' → Fr W H W' H' → ∀ v, Rep X.w ca W' d v → K v H' := by
      unfold Wp at hw
      rw [em] at hw
      exact hw
    by_cases nd : ∀ l, d ≠ .dct false l
    · refine (PE.of h (t' := fun σ' H' K' => σ' = σ ∧ H' = H ∧ K' = K) fun σ' H' K' ⟨e1, e2, e3⟩ => ?_).run pins s σ H K I ⟨rfl, rfl, rfl⟩
      subst e1 e2 e3
      refine ⟨W, ρ, μ, g, r, ?_⟩
      unfold Wp
      rw [em]
      exact fun W' H' g' f' p o hp ha => hw' _ _ (g'.add hp) (f'.trans (Mp.Fr.add g' hp)) _ (At.rep nd (at_beside (g'.free hp).1 ha))
    · simp only [Classical.not_forall, Classical.not_not] at nd
      obtain ⟨l, rfl⟩ := nd
      refine (PE.of (pe_lock' h) (t' := fun σ' H' K' => σ' = σ ∧ H' = H ∧ K' = K) fun σ' H' K' ⟨e1, e2, e3⟩ => ?_).run pins s σ H K I ⟨rfl, rfl, rfl⟩
      subst e1 e2 e3
      refine ⟨W, ρ, μ, g, r, ?_⟩
      unfold Wp
      rw [em]
      intro W' H' g' f' p o hp ha
      obtain ⟨kvs, e, rk⟩ := ha
      rw [upd_same] at e
      cases e
      refine ⟨p, .dK kvs, rfl, upd_same, True.intro, fun od => ?_⟩
      rw [upd_upd']
      exact hw' _ _ (g'.add hp) (f'.trans (Mp.Fr.add g' hp)) _ ⟨p, od, kvs, rfl, upd_same, RepK.mono (Wd.le_add (g'.free hp).1) l kvs rk⟩
theorem new_lst {es : List Expr} {ns : Dens} (h : SdL ca Wx X es ns) : PE X (.List es pos) (TNew X.w ca Wx fun ρ => do
    let ds ← evs ρ ns
    sized ds
    M.ret (.lst ds)) := by
  refine PE.of (pe_lst h.pa) fun σ H K ⟨W, ρ, μ, g, r, hw⟩ => ⟨W, ρ, μ, g, r, hw.bind.imp fun W1 μ1 H1 ds g1 f1 h1 vs rvs => ?_⟩
  obtain ⟨hl, h2⟩ := sized_ok h1
  exact ⟨by rw [rvs.length]; exact hl, fun p hp => h2.ret g1 p _ hp ⟨vs, upd_same, rvs⟩⟩

/-! ### and, or -/
theorem first_read {v : Rho → M D} {yes no : Rho → D → M D} {σ : L2.St} {H : Hp} {K : VK} (h : TV X.w ca Wx (fun ρ => do
    let x ← v ρ
    let c ← content x
    let b ← truthM c
    if b then yes ρ x else no ρ x) σ H K) : TV X.w ca Wx v σ H fun u H1 => ∃ W1 ρ μ1 x c b, GS X.w ca W1 μ1 H1 ∧ SR X.w ca W1 H1 σ ρ ∧ Rep X.w ca W1 x u ∧ Cn X.w ca W1 H1 c u ∧ truth c = some b ∧
      Wp X.w ca Wx (if b = true then yes ρ x else no ρ x) σ W1 μ1 H1 fun W' _ H' d => ∀ b, Rep X.w ca W' d b → K b H' := by
  obtain ⟨W, ρ, μ, g, r, hw⟩ := h
  refine ⟨W, ρ, μ, g, r, hw.bind.imp fun W1 μ1 H1 x g1 f1 h1 u ru => ?_⟩
  obtain ⟨c, hc, _, h2⟩ := content_ok g1 ru h1.bind
  obtain ⟨b, hb, h3⟩ := (h2 W1 H1 g1 (Mp.Fr.refl W1 H1)).bind.some
  exact ⟨W1, ρ, μ1, x, c, b, g1, r.fr f1, ru, hc, hb, h3 W1 H1 g1 (Mp.Fr.refl W1 H1)⟩
theorem pe_andL {es : List Expr} {ns : Dens} (h : SdL ca Wx X es ns) (hp : plainA ns = true) (he : es ≠ []) : PE X (.BoolOp .And es pos) (TV X.w ca Wx fun ρ => evAnd ρ ns) := by
  induction h with
  | nil => exact (he rfl).elim
  | star h t ih => cases hp
  | starV hc h hb hl t ih => cases hp
  | cons h hs t ih =>
    rename_i a na es ns
    cases t with
    | nil => exact pe_one h.v
    | star h' t' => cases hp
    | starV _ h' _ _ t' => cases hp
    | cons h' hs' t' =>
      have hr := ih hp (by simp)
      refine ⟨fun pins s σ H K I hw => ?_⟩
      refine BoolOp_and (thn (h.v.run pins s σ H _ I (first_read hw)) fun u s1 ⟨x, H1, I1, r1, W1, ρ, μ1, d, c, b, g1, sr, rd, hc, hb, q⟩ => ?_)
      refine thn (truth_ok (Q := fun c H2 => c = b ∧ H2 = H1) I1 g1 r1 hc hb ⟨rfl, rfl⟩) fun c s2 ⟨H2, I2, e1, e2⟩ => ?_
      subst e1 e2
      cases c with
      | true =>
        rw [if_pos rfl] at q
        exact hr.run pins s2 σ H2 K I2 ⟨W1, ρ, μ1, g1, sr, q⟩
      | false =>
        rw [if_neg Bool.false_ne_true] at q
        exact ⟨x, H2, I2, r1, q.ret g1 x rd⟩
theorem pe_orL {es : List Expr} {ns : Dens} (h : SdL ca Wx X es ns) (hp : plainA ns = true) (he : es ≠ []) : PE X (.BoolOp .Or es pos) (TV X.w ca Wx fun ρ => evOr ρ ns) := by
  induction h with
  | nil => exact (he rfl).elim
  | star h t ih => cases hp
  | starV hc h hb hl t ih => cases hp
  | cons h hs t ih =>
    rename_i a na es ns
    cases t with
    | nil => exact pe_one h.v
    | star h' t' => cases hp
    | starV _ h' _ _ t' => cases hp
    | cons h' hs' t' =>
      have hr := ih hp (by simp)
      refine ⟨fun pins s σ H K I hw => ?_⟩
      refine BoolOp_or (thn (h.v.run pins s σ H _ I (first_read hw)) fun u s1 ⟨x, H1, I1, r1, W1, ρ, μ1, d, c, b, g1, sr, rd, hc, hb, q⟩ => ?_)
      refine thn (truth_ok (Q := fun c H2 => c = b ∧ H2 = H1) I1 g1 r1 hc hb ⟨rfl, rfl⟩) fun c s2 ⟨H2, I2, e1, e2⟩ => ?_
      subst e1 e2
      cases c with
      | false =>
        rw [if_neg Bool.false_ne_true] at q
        exact hr.run pins s2 σ H2 K I2 ⟨W1, ρ, μ1, g1, sr, q⟩
      | true =>
        rw [if_pos rfl] at q
        exact ⟨x, H2, I2, r1, q.ret g1 x rd⟩
theorem pw_andL {es : List Expr} {ns : Dens} (h : SdL ca Wx X es ns) (hp : plainA ns = true) (he : es ≠ []) : PW X (.BoolOp .And es pos) (TB X.w ca Wx fun ρ => evAndT ρ ns) := by
  induction h with
  | nil => exact (he rfl).elim
  | star h t ih => cases hp
  | starV hc h hb hl t ih => cases hp
  | cons h hs t ih =>
    rename_i a na es ns
    cases t with
    | nil => exact pw_and1 h.t
    | star h' t' => cases hp
    | starV _ h' _ _ t' => cases hp
    | cons h' hs' t' =>
      refine PW.of (pw_and h.t (ih hp (by simp))) fun σ H K ⟨W, ρ, μ, g, r, hw⟩ => ⟨W, ρ, μ, g, r, hw.bind.imp fun W1 μ1 H1 k g1 f1 h1 k' e => ?_⟩
      subst e
      cases k' with
      | true => rw [if_pos rfl] at h1 ⊢; exact ⟨W1, ρ, μ1, g1, r.fr f1, h1⟩
      | false => rw [if_neg Bool.false_ne_true] at h1 ⊢; exact h1.ret g1 _ rfl
theorem pw_orL {es : List Expr} {ns : Dens} (h : SdL ca Wx X es ns) (hp : plainA ns = true) (he : es ≠ []) : PW X (.BoolOp .Or es pos) (TB X.w ca Wx fun ρ => evOrT ρ ns) := by
  induction h with
  | nil => exact (he rfl).elim
  | star h t ih => cases hp
  | starV hc h hb hl t ih => cases hp
  | cons h hs t ih =>
    rename_i a na es ns
    cases t with
    | nil => exact pw_or1 h.t
    | star h' t' => cases hp
    | starV _ h' _ _ t' => cases hp
    | cons h' hs' t' =>
      refine PW.of (pw_or h.t (ih hp (by simp))) fun σ H K ⟨W, ρ, μ, g, r, hw⟩ => ⟨W, ρ, μ, g, r, hw.bind.imp fun W1 μ1 H1 k g1 f1 h1 k' e => ?_⟩
      subst e
      cases k' with
      | false => rw [if_neg Bool.false_ne_true] at h1 ⊢; exact ⟨W1, ρ, μ1, g1, r.fr f1, h1⟩
      | true => rw [if_pos rfl] at h1 ⊢; exact h1.ret g1 _ rfl
theorem Sd.and_ {es : List Expr} {ns : Dens} (h : SdL ca Wx X es ns) (hp : plainA ns = true) (he : es ≠ []) : Sd ca Wx X (.BoolOp .And es pos) (Dn.and_ ns) :=
  ⟨pe_andL h hp he, (pw_andL h hp he).pt, Sd.q_of (pe_andL h hp he)⟩
theorem Sd.or_ {es : List Expr} {ns : Dens} (h : SdL ca Wx X es ns) (hp : plainA ns = true) (he : es ≠ []) : Sd ca Wx X (.BoolOp .Or es pos) (Dn.or_ ns) :=
  ⟨pe_orL h hp he, (pw_orL h hp he).pt, Sd.q_of (pe_orL h hp he)⟩

/-! ### a op b op c -/
def ordC : COp → Bool
  | .lt => true | .le => true | .gt => true | .ge => true | _ => false
theorem ord_int {o : COp} {x y : D} {k : Bool} (h : ordC o = true) (e : cmpop o x y = some k) : ∃ i j, x = .int i ∧ y = .int j := by
  cases o <;> first | (cases h; done) | skip
  all_goals (cases x <;> first | (cases e; done) | skip)
  all_goals (cases y <;> first | (cases e; done) | skip)
  all_goals exact ⟨_, _, rfl, rfl⟩
theorem cmp_ord {w : World} {W : Wd} {μ : Mu} {H : Hp} {o : COp} {x y : D} {u v : V} {k : Bool} {Q : VK} (g : GS w ca W μ H) (h : ordC o = true) (e : cmpop o x y = some k) (ru : Rep w ca W x u) (rv : Rep w ca W y v) (q : Q (.bl k) H) : rCmp w ca o u v H Q := by
  obtain ⟨i, j, rfl, rfl⟩ := ord_int h e
  refine ⟨W, μ, .int i, .int j, k, g, ?_, rv, e, q⟩
  cases o <;> first | exact ru | cases h
theorem Sd.chain {o p : COp} {a b c : Expr} {na nb nc : Den} (hu : X.A.units + 64 < cLine) (ho : ordC o = true) (hpp : ordC p = true) (ha : Sd ca Wx X a na) (hb : Sd ca Wx X b nb) (hc : Sd ca Wx X c nc) (hs : notSet c = true) : Sd ca Wx X (.Compare a [cOf o, cOf p] [b, c] pos) (Dn.chain o p na nb nc) := by
  have hm : lastMarks [cOf o, cOf p] [b, c] = false := by
    show behindInMarks (cOf p) c = false
    exact notSet_ok hs
  have rd : ∀ {σ : L2.St} {H : Hp} {K : VK}, TV X.w ca Wx (fun ρ => do
    let x ← na.v ρ
    let y ← nb.v ρ
    let k ← M.some? (cmpop o x y)
    if k then do
      let z ← nc.v ρ
      let k ← M.some? (cmpop p y z)
      M.ret (.bl k)
    else M.ret (.bl false)) σ H K → tChain (rCmp X.w ca o) (rCmp X.w ca p) (TV X.w ca Wx na.v) (TV X.w ca Wx nb.v) (TV X.w ca Wx nc.v) σ H fun x H' => ∃ k, x = .bl k ∧ K x H' := fun {σ H K} ⟨W, ρ, μ, g, r, hw⟩ => by
    refine ⟨W, ρ, μ, g, r, hw.bind.imp fun W1 μ1 H1 x g1 f1 h1 u ru => ⟨W1, ρ, μ1, g1, r.fr f1, h1.bind.imp fun W2 μ2 H2 y g2 f2 h2 v rv => ?_⟩⟩
    obtain ⟨k, hk, h3⟩ := h2.bind.some
    have h3 := h3 W2 H2 g2 (Mp.Fr.refl W2 H2)
    refine cmp_ord g2 ho hk (Rep.mono f2.le x u ru) rv ⟨k, rfl, ?_⟩
    cases k with
    | false => rw [if_neg Bool.false_ne_true] at h3 ⊢; exact ⟨false, rfl, h3.ret g2 _ rfl⟩
    | true =>
      rw [if_pos rfl] at h3 ⊢
      refine ⟨W2, ρ, μ2, g2, r.fr (f1.trans f2), h3.bind.imp fun W3 μ3 H3 z g3 f3 h4 t rt => ?_⟩
      obtain ⟨k, hk, h5⟩ := h4.bind.some
      have h5 := h5 W3 H3 g3 (Mp.Fr.refl W3 H3)
      exact cmp_ord g3 hpp hk (Rep.mono f3.le y v rv) rt ⟨k, rfl, h5.ret g3 _ rfl⟩
  have hv : PE X (.Compare a [cOf o, cOf p] [b, c] pos) (TV X.w ca Wx fun ρ => do
    let x ← na.v ρ
    let y ← nb.v ρ
    let k ← M.some? (cmpop o x y)
    if k then do
      let z ← nc.v ρ
      let k ← M.some? (cmpop p y z)
      M.ret (.bl k)
    else M.ret (.bl false)) := ⟨fun pins s σ H K I hw => thn ((pe_chain (op_cmp (ca := ca) o hu) (op_cmp (ca := ca) p hu) ha.v hb.v hc.v hm).run pins s σ H _ I (rd hw)) fun u s1 ⟨x, H1, I1, r1, k, e, q⟩ => ⟨x, H1, I1, r1, q⟩⟩
  refine ⟨hv, ⟨fun pins s σ H K I ⟨W, ρ, μ, g, r, hw⟩ => ?_⟩, Sd.q_of hv⟩
  have hw' : TV X.w ca Wx (fun ρ => do
    let x ← na.v ρ
    let y ← nb.v ρ
    let k ← M.some? (cmpop o x y)
    if k then do
      let z ← nc.v ρ
      let k ← M.some? (cmpop p y z)
      M.ret (.bl k)
    else M.ret (.bl false)) σ H fun x H' => ∀ k, x = .bl k → K k H' := ⟨W, ρ, μ, g, r, hw.bind.imp fun W1 μ1 H1 d g1 f1 h1 v rv k ek => by
      subst ek
      cases d with
      | bl x =>
        cases rv
        have h1 : Wp X.w ca Wx (M.some? (truth (.bl k))) σ W1 μ1 H1 _ := h1
        obtain ⟨b', hb', h2⟩ := h1.some
        cases hb'
        exact h2 W1 H1 g1 (Mp.Fr.refl W1 H1) _ rfl
      | loc n =>
        obtain ⟨a, e, _⟩ := rv
        cases e
      | scr n =>
        obtain ⟨a, e, _⟩ := rv
        cases e
      | dct k l => cases k with
        | false => obtain ⟨_, _, _, e, _⟩ := rv; cases e
        | true => obtain ⟨_, _, _, _, e, _⟩ := rv; cases e
      | tup _ => obtain ⟨_, _, e, _⟩ := rv; cases e
      | lst _ => obtain ⟨_, _, e, _⟩ := rv; cases e
      | obj _ _ => obtain ⟨_, _, _, e, _⟩ := rv; cases e
      | _ => cases rv⟩
  refine thn ((pt_chain (op_cmp (ca := ca) o hu) (op_cmp (ca := ca) p hu) ha.v hb.v hc.v hm).run pins s σ H K I ?_) fun k s1 q => q
  obtain ⟨W, ρ, μ, g, r, hw⟩ := rd hw'
  refine ⟨W, ρ, μ, g, r, hw.imp fun W1 μ1 H1 x g1 f1 h1 u ru => ?_⟩
  obtain ⟨W, ρ, μ, g, r, hw⟩ := h1 u ru
  refine ⟨W, ρ, μ, g, r, hw.imp fun W2 μ2 H2 y g2 f2 h2 v rv => ?_⟩
  obtain ⟨W3, μ3, c3, d3, b3, g3, l3, m3, e3, k3, ek3, q3⟩ := h2 v rv
  refine ⟨W3, μ3, c3, d3, b3, g3, l3, m3, e3, k3, ek3, ?_⟩
  cases k3 with
  | false =>
    rw [if_neg Bool.false_ne_true] at q3 ⊢
    obtain ⟨k, e, q⟩ := q3
    exact ⟨k, e, q k e⟩
  | true =>
    rw [if_pos rfl] at q3 ⊢
    obtain ⟨W, ρ, μ, g, r, hw⟩ := q3
    refine ⟨W, ρ, μ, g, r, hw.imp fun W4 μ4 H4 z g4 f4 h4 t rt => ?_⟩
    obtain ⟨W5, μ5, c5, d5, b5, g5, l5, m5, e5, k5, ek5, q5⟩ := h4 t rt
    exact ⟨W5, μ5, c5, d5, b5, g5, l5, m5, e5, k5, ek5, q5 k5 ek5⟩
end
end Mp

/-! Fields, items, slices, built-in functions (own work). -/
namespace Mp
open PySem PySem.Spec PyProof.Rows L2

theorem map_nat_inj : ∀ {l m : List Char}, l.map Char.toNat = m.map Char.toNat → l = m
  | [], [], _ => rfl
  | [], _ :: _, h => by simp at h
  | _ :: _, [], h => by simp at h
  | x :: l, y :: m, h => by
    simp only [List.map_cons, List.cons.injEq] at h
    rw [Char.ext (UInt32.toNat_inj.mp h.1), map_nat_inj h.2]
theorem ofString_inj {a b : String} (h : Str.ofString a = Str.ofString b) : a = b := by
  rw [Str.ofString_eq_toList, Str.ofString_eq_toList] at h
  have h : (a.toList.map Char.toNat) = (b.toList.map Char.toNat) := by
    have := congrArg (fun s : Str => s.cps.toList) h
    simpa using this
  exact String.toList_inj.mp (map_nat_inj h)
section
variable {w : World} {ca : CA} {W : Wd} {μ : Mu} {H : Hp}
theorem RepF.look {f : String} {d : D} : ∀ {l : List (String × D)} {fs : List (Str × V)}, RepF w ca W l fs → l.lookup f = some d → ∃ v, fs.lookup (Str.ofString f) = some v ∧ Rep w ca W d v
  | [], _, _, e => by simp at e
  | (g, x) :: l, _, r, e => by
    obtain ⟨v, q, rfl, a, b⟩ := r
    by_cases z : f = g
    · subst z
      rw [List.lookup_cons_self] at e
      cases e
      exact ⟨v, List.lookup_cons_self, a⟩
    · have e1 : (f == g) = false := by simpa using z
      have e2 : (Str.ofString f == Str.ofString g) = false := by
        simp only [beq_eq_false_iff_ne]
        exact fun q => z (ofString_inj q)
      rw [List.lookup, e1] at e
      obtain ⟨u, h1, h2⟩ := RepF.look b e
      exact ⟨u, by rw [List.lookup, e2]; exact h1, h2⟩
theorem RepF.noLook {f : String} : ∀ {l : List (String × D)} {fs : List (Str × V)}, RepF w ca W l fs → l.lookup f = none → fs.lookup (Str.ofString f) = none
  | [], _, r, e => by have r : _ = [] := r; subst r; rfl
  | (g, x) :: l, _, r, e => by
    obtain ⟨v, q, rfl, a, b⟩ := r
    by_cases z : f = g
    · subst z
      rw [List.lookup_cons_self] at e
      cases e
    · have e1 : (f == g) = false := by simpa using z
      have e2 : (Str.ofString f == Str.ofString g) = false := by
        simp only [beq_eq_false_iff_ne]
        exact fun q => z (ofString_inj q)
      rw [List.lookup, e1] at e
      rw [List.lookup, e2]
      exact RepF.noLook b e
theorem cn_obj {c : String} {l : List (String × D)} {v : V} (h : Cn w ca W H (.obj c l) v) : ∃ a dx fs, v = .ref a ∧ H a = some (.ins (ca c) dx fs) ∧ RepF w ca W l fs := by
  obtain ⟨a, e, dx, fs, h1, h2⟩ := h
  exact ⟨a, dx, fs, e, h1, h2⟩
end

section
variable {ca : CA} {Wx : WX} {X : Cx} {e a b c : Expr} {na nb nc n : Den} {pos : Pos}
theorem Sd.bad (h : plainT e = true) : Sd ca Wx X e Dn.bad := by
  have v : ∀ {s : Shared} {σ H K}, TV X.w ca Wx (fun _ => M.bad) σ H K → False := fun ⟨W, ρ, μ, g, r, hw⟩ => (Wp.bad hw).elim
  have pv : PE X e (TV X.w ca Wx fun _ => M.bad) := ⟨fun pins s σ H K I ⟨W, ρ, μ, g, r, hw⟩ => (Wp.bad hw).elim⟩
  exact .ofV pv h
/-- an expression that is never reached -/
theorem Sd.bad' : Sd ca Wx X e Dn.bad :=
  ⟨⟨fun pins s σ H K I ⟨W, ρ, μ, g, r, hw⟩ => (Wp.bad hw).elim⟩, ⟨fun pins s σ H K I ⟨W, ρ, μ, g, r, hw⟩ => (Wp.bad hw).elim⟩, ⟨fun pins s σ H K I ⟨W, ρ, μ, g, r, hw⟩ => (Wp.bad hw).elim⟩⟩
theorem Sd.lst {es : List Expr} {ns : Dens} (h : SdL ca Wx X es ns) : Sd ca Wx X (.List es pos) (Dn.lst ns) := .ofV (pe_new (new_lst h)) rfl

/-! ### o.f -/
theorem Sd.attr {c f : String} (h : Sd ca Wx X e n) (hc : Cls X.K (ca c)) (hn : NoAttr X.K (ca c) (Str.ofString f)) (hb : attributeBase e (Str.ofString f) X.env (eval e X.env) = eval e X.env := by rfl) :
    Sd ca Wx X (.Attribute e (Str.ofString f) pos) (Dn.attr c n f) := by
  refine .ofV (PE.of (pe_fld h.v hb) fun σ H K ⟨W, ρ, μ, g, r, hw⟩ => ⟨W, ρ, μ, g, r, hw.bind.imp fun W1 μ1 H1 x g1 f1 h1 u ru => ?_⟩) rfl
  obtain ⟨o, ho, _, h2⟩ := content_ok g1 ru h1.bind
  have h2 := h2 W1 H1 g1 (Mp.Fr.refl W1 H1)
  cases o with
  | obj k l =>
    have h2 : Wp X.w ca Wx (if k = c then M.some? (l.lookup f) else M.bad) σ W1 μ1 H1 _ := h2
    by_cases hk : k = c
    · subst hk
      rw [if_pos rfl] at h2
      obtain ⟨d, hd, h3⟩ := h2.some
      obtain ⟨p, dx, fs, rfl, ea, rf⟩ := cn_obj ho
      obtain ⟨v, hv, rv⟩ := rf.look hd
      exact ⟨p, _, dx, fs, v, rfl, ea, hc, hn, hv, h3 W1 H1 g1 (Mp.Fr.refl W1 H1) v rv⟩
    · rw [if_neg hk] at h2
      exact (Wp.bad h2).elim
  | _ => exact (Wp.bad h2).elim
end
end Mp

/-! Items, slices, isinstance, built-in functions (own work). -/
namespace Mp
open PySem PySem.Spec PyProof.Rows L2

theorem ixM_eq (n : Nat) (i : Int) : ixM n i = L2.ixN n i := rfl
theorem at_eq {α : Type} (l : List α) (i : Int) : at_ l i = L2.atI l i := rfl
section
variable {w : World} {ca : CA} {W : Wd} {μ : Mu} {H : Hp}
theorem Reps.at_ {l : List D} {vs : List V} {i : Int} {d : D} (r : Reps w ca W l vs) (h : at_ l i = some d) : ∃ v, L2.atI vs i = some v ∧ Rep w ca W d v := by
  unfold Mp.at_ at h
  unfold L2.atI
  rw [r.length, ← ixM_eq]
  cases e : ixM l.length i with
  | none => rw [e] at h; cases h
  | some j =>
    rw [e] at h
    exact r.get h
theorem Reps.drop : ∀ {l : List D} {vs : List V} (n : Nat), Reps w ca W l vs → Reps w ca W (l.drop n) (vs.drop n)
  | _, _, 0, r => by simpa using r
  | [], _, n + 1, r => by
    have r : _ = [] := r
    subst r
    exact rfl
  | d :: l, _, n + 1, r => by
    obtain ⟨v, q, rfl, a, b⟩ := r
    exact Reps.drop n b
theorem Reps.take : ∀ {l : List D} {vs : List V} (n : Nat), Reps w ca W l vs → Reps w ca W (l.take n) (vs.take n)
  | _, _, 0, r => by
    rw [List.take_zero, List.take_zero]
    exact rfl
  | [], _, n + 1, r => by
    have r : _ = [] := r
    subst r
    exact rfl
  | d :: l, _, n + 1, r => by
    obtain ⟨v, q, rfl, a, b⟩ := r
    exact ⟨v, _, rfl, a, Reps.take n b⟩
theorem lo_eq (n d : Nat) (o : Option Int) : lo_ n d o = HT.sIx n d o := by cases o <;> rfl
theorem cut_eq {l : List D} {vs : List V} (r : Reps w ca W l vs) (lo hi : Option Int) : Reps w ca W (cut l lo hi) (L2.cutV vs lo hi) := by
  unfold cut L2.cutV
  rw [r.length, lo_eq, lo_eq]
  exact (r.drop _).take _
theorem cut_whole {l : List D} {n : Nat} (r : n = l.length) {lo hi : Option Int} (h : HT.sIx n 0 lo = 0 ∧ HT.sIx n n hi = n) : cut l lo hi = l := by
  subst r
  unfold cut
  rw [lo_eq, lo_eq, h.1, h.2]
  simp
end

section
variable {ca : CA} {Wx : WX} {X : Cx} {e a b c : Expr} {na nb nc n : Den} {pos : Pos}
/-- what a subscript by values asks -/
def rIdx (w : World) (ca : CA) : R2 := fun x y H Q => ∃ W μ c k d, GS w ca W μ H ∧ Cn w ca W H c x ∧ Rep w ca W k y ∧ index c k = some d ∧ ∀ W' H' v, GS w ca W' μ H' → Fr W H W' H' → Rep w ca W' d v → Q v H'
theorem ix_any (hu : X.A.units + 16 < cLine) : IxR X (rIdx X.w ca) := by
  intro value slice pins s σ H x y v u Q I rx ry h hs
  obtain ⟨W, μ, c, k, d, g, hc, hk, hd, hQ⟩ := h
  cases c <;> first | (simp only [index] at hd; cases hd; done) | skip
  case lst l =>
    obtain ⟨p, rfl, vs, ea, rl⟩ := hc
    cases k <;> first | (simp only [index] at hd; cases hd; done) | skip
    cases hk
    obtain ⟨z, hz, rz⟩ := rl.at_ hd
    exact ix_list value slice pins s σ H _ _ v u Q I rx ry ⟨p, vs, _, z, rfl, rfl, SqL.of ea, hz, hQ W H z g (Mp.Fr.refl W H) rz⟩ hs
  case scr l =>
    obtain ⟨p, rfl, hs'⟩ := hc
    cases k <;> first | (simp only [index] at hd; cases hd; done) | skip
    cases hk
    rename_i i
    have hd : (at_ l i).map D.int = some d := hd
    obtain ⟨z, hz, rfl⟩ := Option.map_eq_some_iff.mp hd
    have rd : SqL X.K H p (l.map V.int) := .inl (hs'.imp (g.sub _ _) fun ⟨o, q⟩ => ⟨o, g.sub _ _ q⟩)
    have hz2 : L2.atI (l.map V.int) i = some (.int z) := by
      rw [← at_eq]
      unfold at_ at hz ⊢
      rw [List.length_map]
      obtain ⟨j, e1, e2⟩ := Option.bind_eq_some_iff.mp hz
      rw [e1]
      show (l.map V.int)[j]? = _
      rw [List.getElem?_map, e2]
      rfl
    exact ix_list value slice pins s σ H _ _ v u Q I rx ry ⟨p, _, _, _, rfl, rfl, rd, hz2, hQ W H _ g (Mp.Fr.refl W H) rfl⟩ hs
  case tup l =>
    obtain ⟨p, vs, rfl, ea, rl⟩ := hc
    cases k <;> first | (simp only [index] at hd; cases hd; done) | skip
    cases hk
    obtain ⟨z, hz, rz⟩ := rl.at_ hd
    exact ix_tup value slice pins s σ H _ _ v u Q I rx ry ⟨p, vs, _, z, rfl, rfl, SqT.of (g.sub _ _ ea), hz, hQ W H z g (Mp.Fr.refl W H) rz⟩ hs
  case str z =>
    cases hc
    cases k <;> first | (simp only [index] at hd; cases hd; done) | skip
    cases hk
    simp only [index] at hd
    split at hd
    · rename_i hl
      cases e : Mp.at_ z.cps.toList _ with
      | none => rw [e] at hd; cases hd
      | some ch =>
        rw [e] at hd
        cases hd
        exact ix_str value slice pins s σ H _ _ v u Q I rx ry ⟨z, _, ch, rfl, rfl, by rw [← line_eq]; exact hl, e, hQ W H _ g (Mp.Fr.refl W H) rfl⟩ hs
    · cases hd
  case dct kk l =>
    obtain ⟨p, rfl, q⟩ := hc
    simp only [index] at hd
    split at hd
    · rename_i hkk
      cases rx
      exact PyProof.Rows.tail_any (dct_typeIs I q) F.slot_dict_getitem.lookup (dct_get hu I g q hkk hk ry hd fun v' w' s' I' rv' rd => ⟨v', H, I', rv', hQ W H v' g (Mp.Fr.refl W H) rd⟩) hs
    · cases hd

theorem Sd.idx (hu : X.A.units + 16 < cLine) (ha : Sd ca Wx X a na) (hb : Sd ca Wx X b nb) (hs : PlainIx b) : Sd ca Wx X (.Subscript a b pos) (Dn.idx na nb) :=
  .ofV (PE.of (pe_ix (ix_any (ca := ca) hu) ha.q hb.v hs) fun σ H K ⟨W, ρ, μ, g, r, hw⟩ => by
    refine ⟨W, ρ, μ, g, r, hw.bind.imp fun W1 μ1 H1 x g1 f1 h1 v rv => ⟨W1, ρ, μ1, g1, r.fr f1, h1.bind.imp fun W2 μ2 H2 k g2 f2 h2 u ru => ?_⟩⟩
    obtain ⟨c, hc, h3⟩ := cont_ok g2 (r.fr (f1.trans f2)) (rv.fr f2) h2
    obtain ⟨d, hd, h4⟩ := h3.some
    exact ⟨W2, μ2, c, k, d, g2, hc, ru, hd, fun W' H' v g' f' rv => h4 W' H' g' f' v rv⟩) rfl

/-! ### e[lo:hi] -/
def rSli (w : World) (ca : CA) : V → Option Int → Option Int → Hp → VK → Prop := fun x lo hi H Q => ∃ W μ c d, GS w ca W μ H ∧ Rep w ca W c x ∧ slice c lo hi = some d ∧ ∀ W' H' v, GS w ca W' μ H' → Fr W H W' H' → Rep w ca W' d v → Q v H'
theorem sl_any : SlR X (rSli X.w ca) := by
  intro pins s σ H x v vl vu lo hi sl Q I rx hs pl pu h
  obtain ⟨W, μ, c, d, g, hc, hd, hQ⟩ := h
  cases c <;> first | (simp only [slice] at hd; cases hd; done) | skip
  case lst l =>
    obtain ⟨p, vs, rfl, ea, rl⟩ := hc
    cases hd
    exact sl_list pins s σ H _ v vl vu lo hi sl Q I rx hs pl pu ⟨p, vs, rfl, SqL.of (g.sub _ _ ea), fun q hq => out_lst g hq (cut_eq rl lo hi) hQ⟩
  case tup l =>
    have hc' := hc
    obtain ⟨p, vs, rfl, ea, rl⟩ := hc
    cases hd
    refine sl_tupA pins s σ H _ v vl vu lo hi sl Q I rx hs pl pu ⟨p, vs, rfl, SqT.of (g.sub _ _ ea), fun hw => ?_, fun _ q hq => out_tup g hq (cut_eq rl lo hi) hQ⟩
    rw [cut_whole rl.length hw] at hQ
    exact out_same g hc' hQ
/-- a bound of a slice -/
inductive SdO (ca : CA) (Wx : WX) (X : Cx) : Option Expr → Option Den → Prop
  | none : SdO ca Wx X none none
  | some {e : Expr} {n : Den} (h : Sd ca Wx X e n) : SdO ca Wx X (some e) (some n)
abbrev TO' (w : World) (ca : CA) (Wx : WX) (m : Rho → M (Option Int)) : TO := Rd_ w ca Wx (fun _ _ _ _ a b => b = a) m
theorem SdO.po {o : Option Expr} {n : Option Den} (h : SdO ca Wx X o n) : PO X o (TO' X.w ca Wx fun ρ => evO ρ n) := by
  cases h with
  | none =>
    refine ⟨fun pins s σ H Q I ⟨W, ρ, μ, g, r, hw⟩ => po_none.run pins s σ H Q I (hw.ret g _ rfl)⟩
  | some h =>
    refine ⟨fun pins s σ H Q I ⟨W, ρ, μ, g, r, hw⟩ => (po_some h.v).run pins s σ H Q I ?_⟩
    refine ⟨W, ρ, μ, g, r, hw.bind.imp fun W1 μ1 H1 x g1 f1 h1 v rv => ?_⟩
    cases x <;> first | exact (Wp.bad h1).elim | skip
    cases rv
    exact ⟨_, rfl, h1.ret g1 _ rfl⟩
theorem Sd.sli {o1 o2 : Option Expr} {n1 n2 : Option Den} {p2 : Pos} (h : Sd ca Wx X e n) (h1 : SdO ca Wx X o1 n1) (h2 : SdO ca Wx X o2 n2) : Sd ca Wx X (.Subscript e (.Slice o1 o2 none p2) pos) (Dn.sli n n1 n2) :=
  .ofV (PE.of (pe_slice (sl_any (ca := ca)) h.v h1.po h2.po) fun σ H K ⟨W, ρ, μ, g, r, hw⟩ => by
    refine ⟨W, ρ, μ, g, r, hw.bind.imp fun W1 μ1 H1 x g1 f1 h1 v rv => ⟨W1, ρ, μ1, g1, r.fr f1, h1.bind.imp fun W2 μ2 H2 lo g2 f2 h2 lo' e1 => ?_⟩⟩
    subst e1
    refine ⟨W2, ρ, μ2, g2, r.fr (f1.trans f2), h2.bind.imp fun W3 μ3 H3 hi g3 f3 h3 hi' e2 => ?_⟩
    subst e2
    obtain ⟨d, hd, h4⟩ := h3.some
    exact ⟨W3, μ3, x, d, g3, Rep.mono (f2.trans f3).le x v rv, hd, fun W' H' v g' f' rv => h4 W' H' g' f' v rv⟩) rfl

/-! ### isinstance -/
def tyName : Ty → String
  | .int => "int" | .bool => "bool" | .str => "str" | .tuple => "tuple" | .list => "list" | .dict => "dict" | .cls _ => ""
def dTy : D → Option String
  | .non => some "NoneType" | .bl _ => some "bool" | .int _ => some "int" | .str _ => some "str" | .tup _ => some "tuple" | .lst _ => some "list" | .dct false _ => some "dict" | _ => none
theorem cn_ty {w : World} {W : Wd} {H : Hp} {K : PySem.W.Frag} {c : D} {x : V} {n : String} (g : ∀ a o, W.S a = some o → H a = some o) (h : Cn w ca W H c x) (e : dTy c = some n) : TyX K H x (.type n) := by
  cases c <;> first | (simp only [dTy] at e; cases e; done) | skip
  case non => cases h; cases e; exact .base .non
  case bl => cases h; cases e; exact .base (.bl _)
  case int => cases h; cases e; exact .base (.int _)
  case str => cases h; cases e; exact .base (.str _)
  case tup l =>
    obtain ⟨a, vs, rfl, s, r⟩ := h
    cases e
    exact .base (.tup (g _ _ s))
  case lst l =>
    obtain ⟨a, rfl, vs, s, r⟩ := h
    cases e
    exact .base (.lst s)
  case dct k l => cases k with
    | false =>
      obtain ⟨a, rfl, kvs, s, r⟩ := h
      cases e
      rcases s with s | ⟨o, s⟩
      · exact .base (.dK s)
      · exact .fDict s
    | true => cases e
/-- the class as an argument: a built-in type -/
theorem isTy_kit {t : Ty} {c : D} {b : Bool} {n : String} (h : isTy t c = some b) (e : dTy c = some n) : kitB n (tyName t) = some b ∧ (∀ k, t ≠ .cls k) := by
  cases t <;> cases c <;> first | (simp only [isTy] at h; cases h; done) | (simp only [dTy] at e; cases e; done) | skip
  all_goals first
    | (simp only [isTy] at h; simp only [dTy] at e; cases h; cases e; exact ⟨by decide +kernel, fun k => Ty.noConfusion⟩)
    | (rename_i k l; cases k <;> first | (simp only [isTy] at h; cases h; done) | (simp only [dTy] at e; cases e; done) | (simp only [isTy] at h; simp only [dTy] at e; cases h; cases e; exact ⟨by decide +kernel, fun k => Ty.noConfusion⟩))
end
end Mp

/-! isinstance, built-in functions, methods of lists and dicts (own work). -/
namespace Mp
open PySem PySem.Spec PyProof.Rows L2

section
variable {ca : CA} {Wx : WX} {X : Cx} {e a b c : Expr} {na nb nc n : Den} {pos p p1 p2 : Pos} {es : List Expr} {ns : Dens}
theorem Sd.isi {t : Ty} {x y : Str} (h : Sd ca Wx X e n) (hg : Gl X x) (hm : X.mg x = none) (hv : bootBuiltins x = some (.builtin "isinstance")) (hg2 : Gl X y) (hm2 : X.mg y = none) (hv2 : bootBuiltins y = some (.type (tyName t)))
    (hn : x ≠ "__name__" := by decide) (hd : (x == ("__debug__" : Str)) = false := by decide) (hn2 : y ≠ "__name__" := by decide) (hd2 : (y == ("__debug__" : Str)) = false := by decide)
    (he : starEach (e :: [.Name y p2]) X.env = (false, eval e X.env) :: starEach [.Name y p2] X.env := by rfl) (hc : ∀ k, t ≠ .cls k := by intro k; exact Ty.noConfusion) :
    Sd ca Wx X (.Call (.Name x p) [e, .Name y p2] [] pos) (Dn.isi n t) := by
  have ha := pa_cons h.q (pa_cons (pe_bltn (pos := p2) hg2 hm2 hv2 (show RelV (.ty (tyName t)) (.type (tyName t)) from rfl) hn2 hd2) pa_nil) he
  refine .ofV (PE.of (pe_callB call_isi hg hm hv ha hn hd he) fun σ H K ⟨W, ρ, μ, g, r, hw⟩ => ?_) rfl
  refine ⟨W, ρ, μ, g, r, hw.bind.imp fun W1 μ1 H1 q g1 f1 h1 v rv => ?_⟩
  obtain ⟨d, hd, h2⟩ := cont_ok g1 (r.fr f1) rv h1
  obtain ⟨k, hk, h3⟩ := h2.bind.some
  have h3 := (h3 W1 H1 g1 (Mp.Fr.refl W1 H1)).ret g1 (.bl k) rfl
  cases ed : dTy d with
  | none =>
    cases t <;> cases d <;> first | (simp only [isTy] at hk; cases hk; done) | (simp only [dTy] at ed; cases ed; done) | skip
    all_goals first
      | (exact (hc _ rfl).elim)
      | (rename_i k l; cases k <;> first | (simp only [isTy] at hk; cases hk; done) | (simp only [dTy] at ed; cases ed; done))
  | some m => exact ⟨v, .ty (tyName t), .type m, .type (tyName t), k, rfl, .ty _, cn_ty g1.sub hd ed, kit_ty (isTy_kit hk ed).1, h3⟩
theorem Sd.isiC {k : String} {x y : Str} (h : Sd ca Wx X e n) (hg : Gl X x) (hm : X.mg x = none) (hv : bootBuiltins x = some (.builtin "isinstance")) (hg2 : Gl X y) (hm2 : X.mg y = some (.ref (ca k))) (hc : C8.InsC X.K (ca k))
    (hn : x ≠ "__name__" := by decide) (hd : (x == ("__debug__" : Str)) = false := by decide) (hd2 : (y == ("__debug__" : Str)) = false := by decide)
    (he : starEach (e :: [.Name y p2]) X.env = (false, eval e X.env) :: starEach [.Name y p2] X.env := by rfl) :
    Sd ca Wx X (.Call (.Name x p) [e, .Name y p2] [] pos) (Dn.isi n (.cls k)) := by
  have ha := pa_cons h.q (pa_cons (pe_glob (pos := p2) hg2 hm2 (show RelV (.ref (ca k)) (.ref (ca k)) from rfl) hd2) pa_nil) he
  refine .ofV (PE.of (pe_callB call_isi hg hm hv ha hn hd he) fun σ H K ⟨W, ρ, μ, g, r, hw⟩ => ?_) rfl
  refine ⟨W, ρ, μ, g, r, hw.bind.imp fun W1 μ1 H1 q g1 f1 h1 v rv => ?_⟩
  obtain ⟨d, hd, h2⟩ := cont_ok g1 (r.fr f1) rv h1
  obtain ⟨b, hk, h3⟩ := h2.bind.some
  have h3 := (h3 W1 H1 g1 (Mp.Fr.refl W1 H1)).ret g1 (.bl b) rfl
  cases d <;> first | (simp only [isTy] at hk; cases hk; done) | skip
  rename_i c l
  simp only [isTy] at hk
  split at hk
  · rename_i hkk
    subst hkk
    cases hk
    obtain ⟨a, dx, fs, rfl, ea, rf⟩ := cn_obj hd
    exact ⟨.ref a, .ref (ca c), .ref (ca c), .ref (ca c), true, rfl, .own _, .base (.ins ea hc.cl hc.ha hc.hn hc.htk hc.hm), hc.me, h3⟩
  · cases hk

/-! ### f(x) -/
def rBi (w : World) (ca : CA) (b : Bi) : List V → Hp → VK → Prop := fun xs H Q => ∃ W μ c d x, xs = [x] ∧ GS w ca W μ H ∧ Cn w ca W H c x ∧ bfun b [c] = some d ∧ ∀ W' H' v, GS w ca W' μ H' → Fr W H W' H' → Rep w ca W' d v → Q v H'
theorem bi_read {b : Bi} {σ : L2.St} {H : Hp} {K : VK} (h : TV X.w ca Wx (Dn.bi1 b n).v σ H K) : tCB (rBi X.w ca b) (tCons (TQ X.w ca Wx n.q) tNil) σ H K := by
  obtain ⟨W, ρ, μ, g, r, hw⟩ := h
  have hw : Wp X.w ca Wx (do
    let q ← n.q ρ
    let c ← cont ρ q
    M.some? (bfun b [c])) σ W μ H _ := hw
  refine ⟨W, ρ, μ, g, r, hw.bind.imp fun W1 μ1 H1 q g1 f1 h1 v rv => ?_⟩
  obtain ⟨c, hc, h2⟩ := cont_ok g1 (r.fr f1) rv h1
  obtain ⟨d, hd, h3⟩ := h2.some
  exact ⟨W1, μ1, c, d, v, rfl, g1, hc, hd, fun W' H' v g' f' rv => h3 W' H' g' f' v rv⟩
theorem Sd.biB {b : Bi} {id : String} {x : Str} (hc : CallR X (.builtin id) (rBi X.w ca b)) (h : Sd ca Wx X e n) (hg : Gl X x) (hm : X.mg x = none) (hv : bootBuiltins x = some (.builtin id))
    (hn : x ≠ "__name__" := by decide) (hd : (x == ("__debug__" : Str)) = false := by decide) (he : starEach (e :: []) X.env = (false, eval e X.env) :: starEach [] X.env := by rfl) :
    Sd ca Wx X (.Call (.Name x p) [e] [] pos) (Dn.bi1 b n) :=
  .ofV (PE.of (pe_callB hc hg hm hv (pa_cons h.q pa_nil he) hn hd he) fun σ H K h => bi_read h) rfl
theorem Sd.biT {b : Bi} {T : String} {x : Str} (hc : CallR X (.type T) (rBi X.w ca b)) (h : Sd ca Wx X e n) (hg : Gl X x) (hm : X.mg x = none) (hv : bootBuiltins x = some (.type T))
    (hn : x ≠ "__name__" := by decide) (hd : (x == ("__debug__" : Str)) = false := by decide) (he : starEach (e :: []) X.env = (false, eval e X.env) :: starEach [] X.env := by rfl) :
    Sd ca Wx X (.Call (.Name x p) [e] [] pos) (Dn.bi1 b n) :=
  .ofV (PE.of (pe_callTy hc hg hm hv (pa_cons h.q pa_nil he) hn hd he) fun σ H K h => bi_read h) rfl
theorem cb_len : CallR X (.builtin "len") (rBi X.w ca .len) := by
  intro pins s σ H xs us Q I r h
  obtain ⟨W, μ, c, d, x, rfl, g, hc, hd, hQ⟩ := h
  have fin : ∀ i : Int, d = .int i → Q (.int i) H := fun i e => by subst e; exact hQ W H _ g (Mp.Fr.refl W H) rfl
  cases c <;> first | (simp only [bfun] at hd; cases hd; done) | skip
  case lst l =>
    obtain ⟨p, rfl, vs, ea, rl⟩ := hc
    cases hd
    exact call_len pins s σ H _ us Q I r ⟨_, _, rfl, .inl ⟨vs, SqL.of ea, rfl⟩, by rw [rl.length]; exact fin _ rfl⟩
  case scr l =>
    obtain ⟨p, rfl, hs'⟩ := hc
    cases hd
    have rd : SqL X.K H p (l.map V.int) := .inl (hs'.imp (g.sub _ _) fun ⟨o, q⟩ => ⟨o, g.sub _ _ q⟩)
    exact call_len pins s σ H _ us Q I r ⟨_, _, rfl, .inl ⟨_, rd, rfl⟩, by rw [List.length_map]; exact fin _ rfl⟩
  case tup l =>
    obtain ⟨p, vs, rfl, ea, rl⟩ := hc
    cases hd
    exact call_len pins s σ H _ us Q I r ⟨_, _, rfl, .inr ⟨vs, SqT.of (g.sub _ _ ea), rfl⟩, by rw [rl.length]; exact fin _ rfl⟩
  case str z =>
    cases hc
    simp only [bfun] at hd
    split at hd
    · rename_i hl
      cases hd
      exact call_len pins s σ H _ us Q I r ⟨_, _, rfl, ⟨by rw [← line_eq]; exact hl, rfl⟩, fin _ rfl⟩
    · cases hd
  case dct k l =>
    obtain ⟨p, rfl, q⟩ := hc
    cases hd
    rw [Vals.ref1 r]
    exact dct_len I g q fun t s' I' => ⟨.int _, H, I', ⟨_, rfl⟩, fin _ rfl⟩
theorem cb_int : CallR X (.type "int") (rBi X.w ca .int) := by
  intro pins s σ H xs us Q I r h
  obtain ⟨W, μ, c, d, x, rfl, g, hc, hd, hQ⟩ := h
  cases c <;> first | (simp only [bfun] at hd; cases hd; done) | skip
  case int i =>
    cases hc; cases hd
    exact call_int1 pins s σ H _ us Q I r (.inl ⟨i, rfl, hQ W H _ g (Mp.Fr.refl W H) rfl⟩)
  case bl i =>
    cases hc; cases hd
    exact call_int1 pins s σ H _ us Q I r (.inr ⟨i, rfl, hQ W H _ g (Mp.Fr.refl W H) rfl⟩)
theorem RepK.keys {w : World} {W : Wd} : ∀ {l : List (D × D)} {kvs : List (Key × V)}, RepK w ca W l kvs → Reps w ca W (l.map (·.1)) (kvs.map fun kv => kV kv.1)
  | [], _, r => by have r : _ = [] := r; subst r; exact rfl
  | p :: l, _, r => by
    obtain ⟨x, v, q, rfl, a, b, c⟩ := r
    exact ⟨_, _, rfl, a, RepK.keys c⟩
theorem cb_list (hcalm : X.calm = true) : CallR X (.type "list") (rBi X.w ca .list) := by
  intro pins s σ H xs us Q I r h
  obtain ⟨W, μ, c, d, x, rfl, g, hc, hd, hQ⟩ := h
  cases c <;> first | (simp only [bfun] at hd; cases hd; done) | skip
  case lst l =>
    obtain ⟨p, rfl, vs, ea, rl⟩ := hc
    cases hd
    exact call_list_of pins s σ H _ us Q I r ⟨p, vs, rfl, .inl (SqL.of ea), fun q hq => out_lst g hq rl hQ⟩
  case tup l =>
    obtain ⟨p, vs, rfl, ea, rl⟩ := hc
    cases hd
    exact call_list_of pins s σ H _ us Q I r ⟨p, vs, rfl, .inr (SqT.of (g.sub _ _ ea)), fun q hq => out_lst g hq rl hQ⟩
  case dct k l => cases k with
    | false =>
      obtain ⟨p, rfl, kvs, ea, rk⟩ := hc
      cases hd
      exact call_listD hcalm pins s σ H _ us Q I r ⟨p, kvs, rfl, ea, fun q hq => out_lst g hq rk.keys hQ⟩
    | true => simp only [bfun] at hd; cases hd
theorem bools_V {w : World} {W : Wd} : ∀ {l : List D} {vs : List V} {bs : List Bool}, Reps w ca W l vs → boolsOf l = some bs → vs = bs.map V.bl
  | [], _, _, r, e => by have r : _ = [] := r; subst r; cases e; rfl
  | d :: l, _, bs, r, e => by
    obtain ⟨v, q, rfl, a, b⟩ := r
    cases d <;> first | (cases e; done) | skip
    have e : (boolsOf l).map (_ :: ·) = some bs := e
    cases h : boolsOf l with
    | none => rw [h] at e; cases e
    | some cs =>
      rw [h] at e
      cases e
      cases a
      rw [bools_V b h]
      rfl
theorem ints_V {w : World} {W : Wd} : ∀ {l : List D} {vs : List V} {bs : List Int}, Reps w ca W l vs → intsOf l = some bs → vs = bs.map V.int
  | [], _, _, r, e => by have r : _ = [] := r; subst r; cases e; rfl
  | d :: l, _, bs, r, e => by
    obtain ⟨v, q, rfl, a, b⟩ := r
    cases d <;> first | (cases e; done) | skip
    have e : (intsOf l).map (_ :: ·) = some bs := e
    cases h : intsOf l with
    | none => rw [h] at e; cases e
    | some cs =>
      rw [h] at e
      cases e
      cases a
      rw [ints_V b h]
      rfl
theorem cb_all (hcalm : X.calm = true) : CallR X (.builtin "all") (rBi X.w ca .all) := by
  intro pins s σ H xs us Q I r h
  obtain ⟨W, μ, c, d, x, rfl, g, hc, hd, hQ⟩ := h
  cases c <;> first | (simp only [bfun] at hd; cases hd; done) | skip
  rename_i l
  obtain ⟨p, rfl, vs, ea, rl⟩ := hc
  have hd : (boolsOf l).map (fun b => D.bl (b.all id)) = some d := hd
  cases eb : boolsOf l with
  | none => rw [eb] at hd; cases hd
  | some bs =>
    rw [eb] at hd
    cases hd
    have ev := bools_V rl eb
    subst ev
    exact cr_all hcalm pins s σ H _ us Q I r ⟨p, bs, rfl, SqL.of ea, hQ W H _ g (Mp.Fr.refl W H) rfl⟩
theorem cb_any (hcalm : X.calm = true) : CallR X (.builtin "any") (rBi X.w ca .any) := by
  intro pins s σ H xs us Q I r h
  obtain ⟨W, μ, c, d, x, rfl, g, hc, hd, hQ⟩ := h
  cases c <;> first | (simp only [bfun] at hd; cases hd; done) | skip
  rename_i l
  obtain ⟨p, rfl, vs, ea, rl⟩ := hc
  have hd : (boolsOf l).map (fun b => D.bl (b.any id)) = some d := hd
  cases eb : boolsOf l with
  | none => rw [eb] at hd; cases hd
  | some bs =>
    rw [eb] at hd
    cases hd
    have ev := bools_V rl eb
    subst ev
    exact cr_any hcalm pins s σ H _ us Q I r ⟨p, bs, rfl, SqL.of ea, hQ W H _ g (Mp.Fr.refl W H) rfl⟩
theorem cb_sum (hcalm : X.calm = true) : CallR X (.builtin "sum") (rBi X.w ca .sum) := by
  intro pins s σ H xs us Q I r h
  obtain ⟨W, μ, c, d, x, rfl, g, hc, hd, hQ⟩ := h
  cases c <;> first | (simp only [bfun] at hd; cases hd; done) | skip
  rename_i l
  obtain ⟨p, rfl, vs, ea, rl⟩ := hc
  have hd : (intsOf l).map (fun b => D.int b.sum) = some d := hd
  cases eb : intsOf l with
  | none => rw [eb] at hd; cases hd
  | some bs =>
    rw [eb] at hd
    cases hd
    have ev := ints_V rl eb
    subst ev
    exact cr_sum hcalm pins s σ H _ us Q I r ⟨p, bs, rfl, SqL.of ea, hQ W H _ g (Mp.Fr.refl W H) rfl⟩

/-! ### f(x, y) -/
def rBi2 (w : World) (ca : CA) (b : Bi) : List V → Hp → VK → Prop := fun xs H Q => ∃ W μ c c' d x y, xs = [x, y] ∧ GS w ca W μ H ∧ Rep w ca W c x ∧ Rep w ca W c' y ∧ bfun b [c, c'] = some d ∧ ∀ W' H' v, GS w ca W' μ H' → Fr W H W' H' → Rep w ca W' d v → Q v H'
theorem Sd.biB2 {k : Bi} {id : String} {x : Str} (hc : CallR X (.builtin id) (rBi2 X.w ca k)) (ha : Sd ca Wx X a na) (hb : Sd ca Wx X b nb) (hg : Gl X x) (hm : X.mg x = none) (hv : bootBuiltins x = some (.builtin id))
    (hn : x ≠ "__name__" := by decide) (hd : (x == ("__debug__" : Str)) = false := by decide) (he : starEach (a :: [b]) X.env = (false, eval a X.env) :: starEach [b] X.env := by rfl) (he2 : starEach (b :: []) X.env = (false, eval b X.env) :: starEach [] X.env := by rfl)
    (hpl : (backTo pos (starEach [b] X.env)).any (·.1) = false := by rfl) :
    Sd ca Wx X (.Call (.Name x p) [a, b] [] pos) (Dn.bi2 k na nb) := by
  refine .ofV (PE.of (pe_callB hc hg hm hv (pa_cons ha.v (pa_cons hb.v pa_nil he2) he) hn hd he hpl) fun σ H K ⟨W, ρ, μ, g, r, hw⟩ => ?_) rfl
  refine ⟨W, ρ, μ, g, r, hw.bind.imp fun W1 μ1 H1 x g1 f1 h1 v rv => ⟨W1, ρ, μ1, g1, r.fr f1, h1.bind.imp fun W2 μ2 H2 y g2 f2 h2 u ru => ?_⟩⟩
  obtain ⟨d, hd, h3⟩ := h2.some
  exact ⟨W2, μ2, x, y, d, v, u, rfl, g2, Rep.mono f2.le x v rv, ru, hd, fun W' H' v g' f' rv => h3 W' H' g' f' v rv⟩
theorem cb_max (hcalm : X.calm = true) : CallR X (.builtin "max") (rBi2 X.w ca .max) := by
  intro pins s σ H xs us Q I r h
  obtain ⟨W, μ, c, c', d, x, y, rfl, g, hc, hc', hd, hQ⟩ := h
  cases c <;> first | (simp only [bfun] at hd; cases hd; done) | skip
  cases c' <;> first | (simp only [bfun] at hd; cases hd; done) | skip
  cases hc; cases hc'; cases hd
  exact call_max2 hcalm pins s σ H _ us Q I r ⟨_, _, rfl, hQ W H _ g (Mp.Fr.refl W H) rfl⟩
theorem cb_min (hcalm : X.calm = true) : CallR X (.builtin "min") (rBi2 X.w ca .min) := by
  intro pins s σ H xs us Q I r h
  obtain ⟨W, μ, c, c', d, x, y, rfl, g, hc, hc', hd, hQ⟩ := h
  cases c <;> first | (simp only [bfun] at hd; cases hd; done) | skip
  cases c' <;> first | (simp only [bfun] at hd; cases hd; done) | skip
  cases hc; cases hc'; cases hd
  exact call_min2 hcalm pins s σ H _ us Q I r ⟨_, _, rfl, hQ W H _ g (Mp.Fr.refl W H) rfl⟩
end
end Mp

/-! Dicts made: displays, dict(pairs) (own work). -/
namespace Mp
open PySem PySem.Spec PyProof.Rows L2

section
variable {X : Cx} {pins : List (Addr × Obj)} {σ : L2.St} {H : Hp} {s : Shared} {E : Value → Shared → Prop} {ca : CA} {W : Wd} {μ : Mu}
/-- a store into a dict that is being made -/
theorem dct_put {a : Addr} {k : Bool} {l : List (D × D)} {x d : D} {v y : V} {u r : Value} {Q : Unit → Shared → Prop} (hu : X.A.units + 16 < cLine) (I : Inv X pins σ H s) (sub : ∀ b o, W.S b = some o → H b = some o) (q : At X.w ca W H a (.dct k l)) (hk : keyOk k x = true) (rx : Rep X.w ca W x v) (rv : RelV v u)
    (rd : Rep X.w ca W d y) (ry : RelV y r) (hl : l.length < line) (h : ∀ o s', Inv X pins σ (upd H a o) s' → At X.w ca W (upd H a o) a (.dct k (put l x d)) → Q () s') : wpAny (model X.prog X.w) X.A (dictSet a u r) Q E s := by
  have hl' : l.length < sizeLine := by rw [← line_eq]; exact hl
  cases k with
  | false =>
    obtain ⟨kvs, e, rk⟩ := q
    obtain ⟨key, rfl⟩ := rep_key_atom hk rx
    exact d_dictSet I e (by rw [rk.length]; exact hl') rv ry fun s' I' => h _ s' I' ⟨_, upd_same, put_K rx rd rk⟩
  | true =>
    obtain ⟨o, es, ep, e, n, rn⟩ := q
    obtain ⟨b, rfl⟩ := rep_key_ref hk rx
    cases rv
    refine wpAny_dictSet_heap (knd := nestedKind X.prog X.w) (hsz := by rw [xs_len rn]; exact n.len) (show X.A.units + 8 < cLine by omega) (rep_key I.hok sub hk rx) (dictOf_N I.hok sub e n rn) fun h' dd hs => ?_
    obtain ⟨o', es', ep', ho', h1, h2, h3, _, h5⟩ := dd
    refine h (rawO a o') _ (d_write I (by rw [e]; exact True.intro) hs ⟨o', ho'⟩ (raw_ok ho')) ⟨o', es', ep', upd_same, ⟨n.sm, ?_, h1, h2, put_all hk n.keys, ?_⟩, ?_⟩
    · have := put_length l x d; omega
    · rw [put_keys hk rn n.keys]; exact h5
    · rw [h3]; exact put_N hk rx ry rd rn n.keys
/-- an empty dict, just laid -/
theorem dct_empty (k : Bool) (I : Inv X pins σ H s) : ∃ o, Inv X pins σ (upd H s.heap.objs.size o) { s with heap := s.heap.push { cls := .type "dict", data := .dict #[] } } ∧ ∀ W, At X.w ca W (upd H s.heap.objs.size o) s.heap.objs.size (.dct k []) := by
  cases k with
  | false => exact ⟨.dK [], I.laid (t' := s.toks) (fun _ _ q => Heap.get?_push_of_some _ q) (Nat.le_refl _) (dk_empty s.heap I.big), fun W => ⟨[], upd_same, rfl⟩⟩
  | true =>
    have e : (s.heap.push { cls := .type "dict", data := .dict #[] }).get? s.heap.objs.size = some { cls := .type "dict", data := .dict #[] } := Heap.get?_push_size _ rfl
    refine ⟨rawO s.heap.objs.size { cls := .type "dict", data := .dict #[] }, I.laid (t' := s.toks) (fun _ _ q => Heap.get?_push_of_some _ q) (Nat.le_refl _) (raw_ok e), fun W => ⟨_, #[], 0, upd_same, ⟨?_, Nat.zero_le _, ⟨rfl, rfl, rfl⟩, rfl, rfl, List.nodup_nil⟩, rfl⟩⟩
    exact beq_eq_false_iff_ne.mpr (Ne.symm (Nat.ne_of_lt I.big))
/-- pairs as they stand -/
def RepPs (w : World) (ca : CA) (W : Wd) : List (D × D) → List (V × V) → Prop
  | [], ps => ps = []
  | p :: r, ps => ∃ x y q, ps = (x, y) :: q ∧ Rep w ca W p.1 x ∧ Rep w ca W p.2 y ∧ RepPs w ca W r q
/-- all of them are stored, one behind the other -/
theorem dct_putAll {a : Addr} {k : Bool} {Q : PUnit → Shared → Prop} (hu : X.A.units + 16 < cLine) : ∀ (ps : List (D × D)) (vs : List (V × V)) (us : List (Value × Value)) (l : List (D × D)) (H : Hp) (s : Shared), Inv X pins σ H s → (∀ b o, W.S b = some o → H b = some o) → W.S a = none → At X.w ca W H a (.dct k l) →
    (ps.all fun p => keyOk k p.1) = true → RepPs X.w ca W ps vs → VV vs us → l.length + ps.length ≤ line → (∀ o s', Inv X pins σ (upd H a o) s' → At X.w ca W (upd H a o) a (.dct k (putAll l ps)) → Q PUnit.unit s') →
    wpAny (model X.prog X.w) X.A (storeAll a us) Q E s
  | [], _, us, l, H, s, I, sub, sa, q, _, r, vv, _, h => by
    have r : _ = [] := r
    subst r
    cases vv
    obtain ⟨o, e⟩ := q.ex
    have := h o s (by rw [upd_id e]; exact I) (by rw [upd_id e]; exact q)
    exact wpAny_pure this
  | p :: ps, _, us, l, H, s, I, sub, sa, q, hk, r, vv, hl, h => by
    obtain ⟨x, y, vs, rfl, r1, r2, r3⟩ := r
    cases vv with
    | cons hv t =>
      rename_i uv us
      obtain ⟨u, v⟩ := uv
      simp only [List.all_cons, Bool.and_eq_true] at hk
      simp only [List.length_cons] at hl
      have st : wpAny (model X.prog X.w) X.A (do dictSet a u v; storeAll a us) Q E s := by
        refine wpAny_bind (dct_put hu I sub q hk.1 r1 hv.1 r2 hv.2 (by omega) fun o s' I' q' => ?_)
        refine dct_putAll hu ps vs us (put l p.1 p.2) (upd H a o) s' I' (fun b u e => by rw [upd_ne (fun z => by subst z; rw [sa] at e; cases e)]; exact sub b u e) sa q' hk.2 r3 t (by have := put_length l p.1 p.2; omega) fun o' s2 I2 q2 => ?_
        rw [upd_upd'] at I2 q2
        exact h o' s2 I2 q2
      unfold storeAll at st ⊢
      rw [List.forIn_cons]
      simpa only [bind_assoc, pure_bind] using st
end
section
variable {ca : CA} {Wx : WX} {X : Cx} {pos : Pos}
/-- a display's keys and values, side by side -/
inductive SdP (ca : CA) (Wx : WX) (X : Cx) : List (Option Expr) → List Expr → Dens → Dens → Prop
  | nil : SdP ca Wx X [] [] [] []
  | cons {k v : Expr} {nk nv : Den} {ks : List (Option Expr)} {vs : List Expr} {nks nvs : Dens} (hk : Sd ca Wx X k nk) (hv : Sd ca Wx X v nv) (t : SdP ca Wx X ks vs nks nvs) : SdP ca Wx X (some k :: ks) (v :: vs) ((false, nk) :: nks) ((false, nv) :: nvs)
theorem SdP.shape {ks : List (Option Expr)} {vs : List Expr} {nks nvs : Dens} (h : SdP ca Wx X ks vs nks nvs) : ks.all (·.isSome) = true ∧ ks.length = vs.length := by
  induction h with
  | nil => exact ⟨rfl, rfl⟩
  | cons hk hv t ih => exact ⟨by simpa using ih.1, by simp [ih.2]⟩
theorem Wp.of_ok {α : Type} {w : World} {m : M α} {σ : L2.St} {W : Wd} {μ μ' : Mu} {H : Hp} {a : α} {P : Wd → Mu → Hp → α → Prop} (e : m μ = .ok a μ') (h : ∀ W' H', GS w ca W' μ' H' → Fr W H W' H' → P W' μ' H' a) : Wp w ca Wx m σ W μ H P := by
  unfold Wp
  rw [e]
  exact h
theorem bind_ok {α β : Type} {m : M α} {f : α → M β} {μ μ' : Mu} {b : β} (h : (m >>= f) μ = .ok b μ') : ∃ a μ1, m μ = .ok a μ1 ∧ f a μ1 = .ok b μ' := by
  have h : (m μ).bind f = .ok b μ' := h
  cases e : m μ with
  | ok a μ1 => rw [e] at h; exact ⟨a, μ1, rfl, h⟩
  | exc x μ1 => rw [e] at h; cases h
  | bad => rw [e] at h; cases h
theorem noExc_wp {α β : Type} {w : World} {m : M α} {f : α → M β} {σ : L2.St} {W : Wd} {μ : Mu} {H : Hp} {P : Wd → Mu → Hp → β → Prop} (h : Wp w ca Wx (noExc m >>= f) σ W μ H P) : ∃ a μ', m μ = .ok a μ' ∧ ∀ W' H', GS w ca W' μ' H' → Fr W H W' H' → Wp w ca Wx (f a) σ W' μ' H' P := by
  have h := h.bind
  unfold Wp at h
  cases e : m μ with
  | ok a μ1 =>
    have e2 : noExc m μ = .ok a μ1 := by unfold noExc; rw [e]
    rw [e2] at h
    exact ⟨a, μ1, rfl, h⟩
  | exc x μ1 =>
    have e2 : noExc m μ = .bad := by unfold noExc; rw [e]
    rw [e2] at h
    exact h.elim
  | bad =>
    have e2 : noExc m μ = .bad := by unfold noExc; rw [e]
    rw [e2] at h
    exact h.elim
theorem SdP.run {k : Bool} {ks : List (Option Expr)} {vs : List Expr} {nks nvs : Dens} (h : SdP ca Wx X ks vs nks nvs) : ∀ (pins : List (Addr × Obj)) (s : Shared) (σ : L2.St) (ρ : Rho) (W : Wd) (μ μ' : Mu) (H : Hp) (l : List (D × D)), Inv X pins σ H s → GS X.w ca W μ H → SR X.w ca W H σ ρ →
    evP ρ k nks nvs μ = .ok l μ' → wpAny (model X.prog X.w) X.A (evalPairs (pairTrees ks vs X.env pos)) (fun us s' => ∃ W' H' ps, Inv X pins σ H' s' ∧ GS X.w ca W' μ' H' ∧ Fr W H W' H' ∧ (l.all fun p => keyOk k p.1) = true ∧ l.length = ks.length ∧ RepPs X.w ca W' l ps ∧ VV ps us) X.xe s := by
  induction h with
  | nil =>
    intro pins s σ ρ W μ μ' H l I g r hw
    have hw : Res.ok [] μ = .ok l μ' := hw
    cases hw
    exact pairTrees_nil_walk ⟨W, H, [], I, g, Mp.Fr.refl W H, rfl, rfl, rfl, .nil⟩
  | cons hk hv t ih =>
    rename_i ek ev nk nv ks vs nks nvs
    intro pins s σ ρ W μ μ' H l I g r hw
    have hw : (do
      let x ← nk.v ρ
      let y ← nv.v ρ
      let l ← evP ρ k nks nvs
      if keyOk k x then M.ret ((x, y) :: l) else M.bad : M _) μ = .ok l μ' := hw
    obtain ⟨x, μ1, e1, hw⟩ := bind_ok hw
    obtain ⟨y, μ2, e2, hw⟩ := bind_ok hw
    obtain ⟨l', μ3, e3, hw⟩ := bind_ok hw
    by_cases hkx : keyOk k x = true
    · rw [if_pos hkx] at hw
      cases hw
      refine pairTrees_cons_walk (thn (hk.v.run pins s σ H (fun v H' => ∃ W1, GS X.w ca W1 μ1 H' ∧ Fr W H W1 H' ∧ Rep X.w ca W1 x v) I ⟨W, ρ, μ, g, r, .of_ok e1 fun W1 H1 g1 f1 v rv => ⟨W1, g1, f1, rv⟩⟩) fun u s1 ⟨v, H1, I1, rv, W1, g1, f1, rx⟩ => ?_)
      refine thn (hv.v.run pins s1 σ H1 (fun v2 H' => ∃ W2, GS X.w ca W2 μ2 H' ∧ Fr W1 H1 W2 H' ∧ Rep X.w ca W2 y v2) I1 ⟨W1, ρ, μ1, g1, r.fr f1, .of_ok e2 fun W2 H2 g2 f2 v rv => ⟨W2, g2, f2, rv⟩⟩) fun u2 s2 ⟨v2, H2, I2, rv2, W2, g2, f2, ry⟩ => ?_
      refine thn (ih pins s2 σ ρ W2 μ2 _ H2 _ I2 g2 (r.fr (f1.trans f2)) e3) fun us s3 ⟨W3, H3, ps, I3, g3, f3, hl, hn, rp, vv⟩ => ?_
      exact ⟨W3, H3, (v, v2) :: ps, I3, g3, (f1.trans f2).trans f3, by rw [List.all_cons, hkx]; exact hl, by simp [hn], ⟨v, v2, ps, rfl, Rep.mono (f2.trans f3).le x v rx, Rep.mono f3.le y v2 ry, rp⟩, .cons ⟨rv, rv2⟩ vv⟩
    · rw [if_neg hkx] at hw
      cases hw
/-- a thing taken away -/
def del (H : Hp) (p : Addr) : Hp := fun b => if b = p then none else H b
theorem del_same {H : Hp} {p : Addr} : del H p p = none := by unfold del; rw [if_pos rfl]
theorem del_ne {H : Hp} {p b : Addr} (h : b ≠ p) : del H p b = H b := by unfold del; rw [if_neg h]
theorem upd_del {H : Hp} {p : Addr} {o : HO} : upd (del H p) p o = upd H p o := by
  funext b
  by_cases z : b = p
  · subst z; rw [upd_same, upd_same]
  · rw [upd_ne z, upd_ne z, del_ne z]
theorem GS.del {w : World} {W : Wd} {μ : Mu} {H : Hp} (g : GS w ca W μ H) {p : Addr} (hs : W.S p = none) (hi : p ∉ W.ι) (nt : ∀ ps, H p ≠ some (.tbl ps)) : GS w ca W μ (del H p) :=
  ⟨fun a o e => by rw [del_ne (fun z => by subst z; rw [hs] at e; cases e)]; exact g.sub a o e, g.len, g.nd, fun n d a e1 e2 => by
    obtain ⟨s, q⟩ := g.lv n d a e1 e2
    have z : a ≠ p := fun z => by subst z; exact hi (List.mem_of_getElem? e2)
    exact ⟨s, At.mono (Wd.le.refl W) (fun u e => by rw [del_ne z]; exact e) d q⟩, fun a m => by
    obtain ⟨o, e⟩ := g.inh a m
    exact ⟨o, by rw [del_ne (fun z => by subst z; exact hi m)]; exact e⟩, g.tb.step (fun _ _ e => e) fun a ps e s m => ⟨by rw [del_ne (fun z => by subst z; exact nt ps e)]; exact e, s, m⟩⟩
theorem Fr.del {W W' : Wd} {H H' : Hp} {p : Addr} {o : HO} (f : Fr W (upd H p o) W' H') (hp : H p = none) : Fr W H W' (del H' p) :=
  ⟨f.le, fun a u e s n => by
    have z : a ≠ p := fun z => by subst z; rw [hp] at e; cases e
    have := f.other a u (by rw [upd_ne z]; exact e) s n
    rw [del_ne z]
    exact this⟩
/-- a thing that is being made: laid, and still untouched behind what was done meanwhile -/
theorem made_still {w : World} {W W' : Wd} {μ : Mu} {H H' : Hp} {p : Addr} {o : HO} {d : D} (g : GS w ca W μ H) (hp : H p = none) (f : Fr W (upd H p o) W' H') (q : At w ca W (upd H p o) p d) : W'.S p = none ∧ p ∉ W'.ι ∧ At w ca W' H' p d := by
  obtain ⟨s0, i0⟩ := g.free hp
  obtain ⟨sa, ia, st⟩ := f.other _ _ upd_same s0 i0
  refine ⟨sa, ia, ?_⟩
  rcases st with st | ⟨qs, more, e, _⟩
  · refine At.mono f.le (fun u e => ?_) _ q
    rw [upd_same] at e
    cases e
    exact st
  · subst e
    exact (q.notTbl upd_same).elim
theorem new_dct {k : Bool} {ks : List (Option Expr)} {vs : List Expr} {nks nvs : Dens} (hu : X.A.units + 16 < cLine) (h15 : ks.length ≤ 15) (h : SdP ca Wx X ks vs nks nvs) : PE X (.Dict ks vs pos) (TNew X.w ca Wx (Dn.dct k nks nvs).v) := by
  refine ⟨fun pins s σ H K I ⟨W, ρ, μ, g, r, hw⟩ => ?_⟩
  have hw : Wp X.w ca Wx (do
    let ps ← noExc (evP ρ k nks nvs)
    if ps.length ≤ 15 then M.ret (D.dct k (putAll [] ps)) else M.bad) σ W μ H fun W' _ H' d => ∀ p o, H' p = none → At X.w ca W' (upd H' p o) p d → K (.ref p) (upd H' p o) := hw
  obtain ⟨l, μ', el, hw⟩ := noExc_wp hw
  obtain ⟨o, I1, q1⟩ := dct_empty (ca := ca) k I
  have q1 := q1 W
  have hp : H s.heap.objs.size = none := I.hok.fresh (Nat.le_refl _)
  have fr : Fr W H W (upd H s.heap.objs.size o) := Mp.Fr.beside hp
  have g1 := g.beside (o := o) hp
  by_cases h0 : ks = []
  · subst h0
    cases h
    have el : Res.ok [] μ = .ok l μ' := el
    cases el
    have hw := hw W H g (Mp.Fr.refl W H)
    exact wpAny_Dict_empty ⟨.ref s.heap.objs.size, _, I1, rfl, hw.ret g _ _ hp q1⟩
  · refine wpAny_Dict_any h.shape.1 h.shape.2 h0 h15 (thn (h.run pins _ σ ρ W μ μ' _ l I1 g1 (r.fr fr) el) fun us s2 ⟨W2, H2, ps, I2, g2, f2, hl, hn, rp, vv⟩ => ?_)
    have hl15 : l.length ≤ 15 := by rw [hn]; exact h15
    obtain ⟨sa, ia, q2⟩ := made_still g hp f2 q1
    refine dct_putAll (W := W2) hu l ps us [] H2 s2 I2 g2.sub sa q2 hl rp vv (by simp only [List.length_nil, Nat.zero_add]; show l.length ≤ 16777216; omega) fun o' s' I' q' => ?_
    have g3 := g2.del sa ia (fun ps e => q2.notTbl e)
    have hw := hw W2 (del H2 s.heap.objs.size) g3 (f2.del hp)
    rw [if_pos hl15] at hw
    have := hw.ret g3 s.heap.objs.size o' del_same (by rw [upd_del]; exact q')
    rw [upd_del] at this
    exact ⟨.ref s.heap.objs.size, _, I', rfl, this⟩
theorem Sd.dct {k : Bool} {ks : List (Option Expr)} {vs : List Expr} {nks nvs : Dens} (hu : X.A.units + 16 < cLine) (h : SdP ca Wx X ks vs nks nvs) (h15 : ks.length ≤ 15 := by decide) : Sd ca Wx X (.Dict ks vs pos) (Dn.dct k nks nvs) := .ofV (pe_new (new_dct hu h15 h)) rfl
end
end Mp

/-! dict(pairs), methods of lists and dicts, calls (own work). -/
namespace Mp
open PySem PySem.Spec PyProof.Rows L2

section
variable {ca : CA} {Wx : WX} {X : Cx} {e a b c o : Expr} {na nb nc n no : Den} {pos p apos cpos : Pos} {es : List Expr} {ns : Dens}
/-! ### dict([(k, v), ..]) -/
theorem merge_K {w : World} {W : Wd} : ∀ {ps l : List (D × D)} {ms kvs : List (Key × V)}, RepK w ca W l kvs → RepK w ca W ps ms → RepK w ca W (putAll l ps) (L2.mergeK kvs ms)
  | [], _, _, _, r, q => by have q : _ = [] := q; subst q; exact r
  | p :: ps, l, _, kvs, r, q => by
    obtain ⟨x, v, ms, rfl, a, b, c⟩ := q
    exact merge_K (ps := ps) (kvs := putK kvs x v) (put_K a b r) c
theorem pairs_K {w : World} {W : Wd} {H : Hp} {K : PySem.W.Frag} (sub : ∀ a o, W.S a = some o → H a = some o) : ∀ {l : List D} {vs : List V} {ps : List (D × D)}, Reps w ca W l vs → pairsOf false l = some ps →
    ∃ as kvs, vs = as.map V.ref ∧ Paired (fun p kv => SqT K H p [kV kv.1, kv.2]) as kvs ∧ RepK w ca W ps kvs
  | [], _, _, r, e => by
    have r : _ = [] := r
    subst r
    cases e
    exact ⟨[], [], rfl, .nil, rfl⟩
  | d :: l, _, ps, r, e => by
    obtain ⟨v, q, rfl, a, b⟩ := r
    cases d <;> first | (cases e; done) | skip
    rename_i t
    match t, e with
    | [], e => cases e
    | [_], e => cases e
    | _ :: _ :: _ :: _, e => cases e
    | [x, y], e =>
      have e : (if keyOk false x = true then (pairsOf false l).map ((x, y) :: ·) else none) = some ps := e
      split at e
      · rename_i hk
        cases h : pairsOf false l with
        | none => rw [h] at e; cases e
        | some qs =>
          rw [h] at e
          cases e
          obtain ⟨as, kvs, rfl, h1, h2⟩ := pairs_K sub b h
          obtain ⟨ad, us, rfl, sa, u1, q1, rfl, r1, u2, q2, rfl, r2, r3⟩ := a
          have r3 : q2 = [] := r3
          subst r3
          obtain ⟨key, rfl⟩ := rep_key_atom hk r1
          exact ⟨ad :: as, (key, u2) :: kvs, rfl, .cons (SqT.of (sub _ _ sa)) h1, key, u2, kvs, rfl, r1, r2, h2⟩
      · cases e
theorem new_dictP {x : Str} (hcalm : X.calm = true) (h : Sd ca Wx X e n) (hg : Gl X x) (hm : X.mg x = none) (hv : bootBuiltins x = some (.type "dict"))
    (hn : x ≠ "__name__" := by decide) (hd : (x == ("__debug__" : Str)) = false := by decide) (he : starEach (e :: []) X.env = (false, eval e X.env) :: starEach [] X.env := by rfl) :
    PE X (.Call (.Name x p) [e] [] pos) (TNew X.w ca Wx (Dn.bi1 .dict n).v) := by
  refine PE.of (pe_callTy (call_dictP hcalm) hg hm hv (pa_cons h.q pa_nil he) hn hd he) fun σ H K ⟨W, ρ, μ, g, r, hw⟩ => ?_
  have hw : Wp X.w ca Wx (do
    let q ← n.q ρ
    let c ← cont ρ q
    M.some? (bfun .dict [c])) σ W μ H _ := hw
  refine ⟨W, ρ, μ, g, r, hw.bind.imp fun W1 μ1 H1 q g1 f1 h1 v rv => ?_⟩
  obtain ⟨c, hc, h2⟩ := cont_ok g1 (r.fr f1) rv h1
  obtain ⟨d, hd, h3⟩ := h2.some
  have h3 := h3 W1 H1 g1 (Mp.Fr.refl W1 H1)
  cases c <;> first | (simp only [bfun] at hd; cases hd; done) | skip
  rename_i l
  obtain ⟨ad, rfl, vs, ea, rl⟩ := hc
  have hd : (pairsOf false l).map (fun ps => D.dct false (putAll [] ps)) = some d := hd
  cases eb : pairsOf false l with
  | none => rw [eb] at hd; cases hd
  | some ps =>
    rw [eb] at hd
    cases hd
    obtain ⟨as, kvs, rfl, k1, k2⟩ := pairs_K (K := X.K) g1.sub rl eb
    exact ⟨ad, as, kvs, rfl, SqL.of ea, k1, fun q hq => h3 q _ hq ⟨_, upd_same, merge_K (l := []) rfl k2⟩⟩
theorem Sd.dictP {x : Str} (hcalm : X.calm = true) (h : Sd ca Wx X e n) (hg : Gl X x) (hm : X.mg x = none) (hv : bootBuiltins x = some (.type "dict"))
    (hn : x ≠ "__name__" := by decide) (hd : (x == ("__debug__" : Str)) = false := by decide) (he : starEach (e :: []) X.env = (false, eval e X.env) :: starEach [] X.env := by rfl) :
    Sd ca Wx X (.Call (.Name x p) [e] [] pos) (Dn.bi1 .dict n) := .ofV (pe_new (new_dictP hcalm h hg hm hv hn hd he)) rfl

/-! ### d.get(k, x), l.index(x) -/
theorem dctOr_wp {w : World} {σ : L2.St} {W : Wd} {μ : Mu} {H : Hp} {α : Type} {d : D} {f : Bool → List (D × D) → M α} {P : Wd → Mu → Hp → α → Prop} (h : Wp w ca Wx (dctOr d f) σ W μ H P) : ∃ k l, d = .dct k l ∧ Wp w ca Wx (f k l) σ W μ H P := by
  cases d with
  | dct k l => exact ⟨k, l, rfl, h⟩
  | _ => exact (Wp.bad (α := α) h).elim
theorem lstOr_wp {w : World} {σ : L2.St} {W : Wd} {μ : Mu} {H : Hp} {α : Type} {d : D} {f : List D → M α} {P : Wd → Mu → Hp → α → Prop} (h : Wp w ca Wx (lstOr d f) σ W μ H P) : ∃ l, d = .lst l ∧ Wp w ca Wx (f l) σ W μ H P := by
  cases d with
  | lst l => exact ⟨l, rfl, h⟩
  | _ => exact (Wp.bad (α := α) h).elim
theorem Sd.getD (hu : X.A.units + 16 < cLine) (ho : Sd ca Wx X o no) (ha : Sd ca Wx X a na) (hb : Sd ca Wx X b nb) (m : M2 X o "get" apos a b cpos) : Sd ca Wx X (.Call (.Attribute o "get" apos) [a, b] [] cpos) (Dn.getD no na nb) := by
  refine .ofV ⟨fun pins s σ H K I ⟨W, ρ, μ, g, r, hw⟩ => ?_⟩ rfl
  refine wpAny_Call_method m.base m.few m.line PySem.F.plainAttrs_dict PySem.F.slot_dict_get PySem.F.type_dict_get (thn (ho.v.run pins s σ H (fun u H1 => ∃ W1 μ1 k l, GS X.w ca W1 μ1 H1 ∧ SR X.w ca W1 H1 σ ρ ∧ Rep X.w ca W1 (.dct k l) u ∧ Wp X.w ca Wx (do
      let y ← na.v ρ
      let z ← nb.v ρ
      M.some? (if keyOk k y then some ((look l y).getD z) else none)) σ W1 μ1 H1 fun W' _ H' d => ∀ v, Rep X.w ca W' d v → K v H') I ⟨W, ρ, μ, g, r, hw.bind.imp fun W1 μ1 H1 x g1 f1 h1 v rv => ?_⟩) fun u s1 ⟨v, H1, I1, r1, W1, μ1, k, l, g1, sr1, rd, h1⟩ => ?_)
  · obtain ⟨k, l, rfl, h2⟩ := dctOr_wp h1
    exact ⟨W1, μ1, k, l, g1, r.fr f1, rv, h2⟩
  · obtain ⟨ad, rfl, cd⟩ : ∃ ad, v = .ref ad ∧ CnD X.w ca W1 H1 ad k l := Rep.at_ g1.sub rd (fun i => D.noConfusion)
    cases r1
    obtain ⟨t1, t2, _⟩ := dct_isD I1 cd
    refine ⟨t1, t2, ?_⟩
    rw [m.trees]
    refine Calls.callWith_builtin rfl (Calls.evalArgs_plain (Calls.spliced_cons (thn (ha.v.run pins s1 σ H1 (fun u H2 => ∃ W2 μ2 x, GS X.w ca W2 μ2 H2 ∧ SR X.w ca W2 H2 σ ρ ∧ Fr W1 H1 W2 H2 ∧ Rep X.w ca W2 x u ∧ Wp X.w ca Wx (do
      let z ← nb.v ρ
      M.some? (if keyOk k x then some ((look l x).getD z) else none)) σ W2 μ2 H2 fun W' _ H' d => ∀ v, Rep X.w ca W' d v → K v H') I1 ⟨W1, ρ, μ1, g1, sr1, h1.bind.imp fun W2 μ2 H2 x g2 f2 h2 v rv => ⟨W2, μ2, x, g2, sr1.fr f2, f2, rv, h2⟩⟩) fun iv s2 ⟨y, H2, I2, ry, W2, μ2, x, g2, sr2, f2, rx, h2⟩ => ?_)))
    refine Calls.spliced_cons (thn (hb.v.run pins s2 σ H2 (fun u H3 => ∃ W3 μ3 z, GS X.w ca W3 μ3 H3 ∧ Fr W2 H2 W3 H3 ∧ Rep X.w ca W3 z u ∧ Wp X.w ca Wx (M.some? (if keyOk k x then some ((look l x).getD z) else none)) σ W3 μ3 H3 fun W' _ H' d => ∀ v, Rep X.w ca W' d v → K v H') I2 ⟨W2, ρ, μ2, g2, sr2, h2.bind.imp fun W3 μ3 H3 z g3 f3 h3 v rv => ⟨W3, μ3, z, g3, f3, rv, h3⟩⟩) fun fv s3 ⟨z, H3, I3, rz, W3, μ3, dz, g3, f3, rz', h3⟩ => Calls.spliced_nil ?_)
    obtain ⟨d, hd, h4⟩ := h3.some
    split at hd
    · rename_i hk
      cases hd
      obtain ⟨ad', e', cd'⟩ : ∃ ad', V.ref ad = .ref ad' ∧ CnD X.w ca W3 H3 ad' k l := Rep.at_ g3.sub (Rep.mono (f2.trans f3).le _ _ rd) (fun i => D.noConfusion)
      cases e'
      exact dct_getD hu I3 g3 cd' hk (Rep.mono f3.le _ _ rx) ry rz' rz fun v u' s4 I4 rv rd => ⟨v, H3, I4, rv, h4 W3 H3 g3 (Mp.Fr.refl W3 H3) v rd⟩
    · cases hd
theorem index_at {w : World} {W : Wd} {x : D} {y : V} (fx : flat x = true) (rx : Rep w ca W x y) : ∀ {l : List D} {vs : List V} {n : Nat}, l.all flat = true → Reps w ca W l vs → indexOf x l = some n →
    vs.all flatV = true ∧ ∃ z, vs[n]? = some z ∧ eqV z y = true ∧ ∀ (m : Nat) (z' : V), m < n → vs[m]? = some z' → eqV z' y = false
  | [], _, _, _, _, e => by cases e
  | d :: l, _, n, fl, r, e => by
    obtain ⟨v, q, rfl, a, b⟩ := r
    simp only [List.all_cons, Bool.and_eq_true] at fl
    have ev := eqv_V fl.1 fx a rx
    have e : (if eqv d x = true then some 0 else (indexOf x l).map (· + 1)) = some n := e
    have fq : q.all flatV = true := (inL_V fx rx fl.2 b).1
    by_cases z : eqv d x = true
    · rw [if_pos z] at e
      cases e
      exact ⟨by rw [List.all_cons, flat_V fl.1 a, fq]; rfl, v, rfl, by rw [← ev]; exact z, fun m z' hm => absurd hm (Nat.not_lt_zero m)⟩
    · rw [if_neg z] at e
      cases e2 : indexOf x l with
      | none => rw [e2] at e; cases e
      | some m =>
        rw [e2] at e
        cases e
        obtain ⟨_, z0, h1, h2, h3⟩ := index_at fx rx fl.2 b e2
        refine ⟨by rw [List.all_cons, flat_V fl.1 a, fq]; rfl, z0, h1, h2, fun k z' hk hz => ?_⟩
        cases k with
        | zero =>
          cases hz
          rw [← ev]
          simpa using z
        | succ k => exact h3 k z' (Nat.lt_of_succ_lt_succ hk) hz
theorem Sd.index (ho : Sd ca Wx X o no) (ha : Sd ca Wx X a na) (hbase : attributeBase o "index" X.env (eval o X.env) = eval o X.env := by rfl)
    (hfew : ((backTo cpos (starEach (a :: []) X.env)).all (fun x => !x.1) && (backToKw cpos (keywordEach [] X.env)).all (fun x => x.1.isSome)
      && decide ((a :: []).length + ([] : List Keyword).length + (if ([] : List Keyword).isEmpty then 0 else 1) < 30)) = true := by rfl)
    (hline : (apos.endLine == cpos.line) = true := by rfl) (hs : starEach (a :: []) X.env = (false, eval a X.env) :: starEach [] X.env := by rfl) :
    Sd ca Wx X (.Call (.Attribute o "index" apos) [a] [] cpos) (Dn.index no na) := by
  refine .ofV (PE.of (pe_bm PySem.F.plainAttrs_list PySem.F.slot_list_index PySem.F.type_list_index mt_index ho.v (pa_cons ha.v pa_nil hs) hbase hfew hline hs) fun σ H K ⟨W, ρ, μ, g, r, hw⟩ => ?_) rfl
  refine ⟨W, ρ, μ, g, r, hw.bind.imp fun W1 μ1 H1 x g1 f1 h1 v rv => ?_⟩
  obtain ⟨l, rfl, h2⟩ := lstOr_wp h1
  obtain ⟨ad, vs, rfl, ea, rl⟩ := rv
  refine ⟨.inl ⟨rfl, vs, SqL.of (g1.sub _ _ ea)⟩, W1, ρ, μ1, g1, r.fr f1, h2.bind.imp fun W2 μ2 H2 y g2 f2 h3 u ru => ?_⟩
  obtain ⟨d, hd, h4⟩ := h3.some
  split at hd
  · rename_i hf
    simp only [Bool.and_eq_true] at hf
    cases e : indexOf y l with
    | none => rw [e] at hd; cases hd
    | some n =>
      rw [e] at hd
      cases hd
      have rl2 := Reps.mono f2.le l vs rl
      obtain ⟨h5, z, h6, h7, h8⟩ := index_at hf.1 ru hf.2 rl2 e
      exact ⟨ad, vs, u, n, z, rfl, rfl, SqL.of (g2.sub _ _ (f2.le.s _ _ ea)), flat_V hf.1 ru, h5, h6, h7, h8, h4 W2 H2 g2 (Mp.Fr.refl W2 H2) _ rfl⟩
  · cases hd
end
end Mp

/-! Calls of the text's own defs, methods, classes (own work). -/
namespace Mp
open PySem PySem.Spec PyProof.Rows L2

/-- a def's promise, by what it computes -/
def spM (w : World) (ca : CA) (n : Nat) (m : Fn) : Sp := fun vs H Q E => ∃ W μ ds, GS w ca W μ H ∧ Reps w ca W ds vs ∧ ds.length = n ∧ Wp w ca (fun c d _ H => E c d H) (m ds) [] W μ H fun W' _ H' d => ∀ v, Rep w ca W' d v → Q v H'
/-- the def at f does what m says; df: its last parameters' defaults -/
structure FnM (P : Program) (w : World) (K : PySem.W.Frag) (mg : Str → Option Value) (base : Heap) (ca : CA) (k : Nat) (f : Addr) (n : Nat) (df : List D) (m : Fn) : Prop where
  ex : ∃ fd ps ds dvs, FnOk P w K mg base (L2.CX P w) k f fd ps (spM w ca n m) ∧ Binds K fd ps ds ∧ Vals dvs ds ∧ ∀ W, Reps w ca W df dvs
  kp : PySem.W.keepIn K (.ref f) = true
theorem Wp.flat {α : Type} {w : World} {ca : CA} {Wx : WX} {m : M α} {σ : L2.St} {W : Wd} {μ : Mu} {H : Hp} {P : Wd → Mu → Hp → α → Prop} (h : Wp w ca Wx m σ W μ H P) : Wp w ca (fun c d _ H => Wx c d σ H) m [] W μ H P := by
  unfold Wp at *
  cases e : m μ with
  | ok a μ' => rw [e] at h; exact h
  | exc x μ' => rw [e] at h; exact h
  | bad => rw [e] at h; exact h
/-- what a text's context gives -/
structure Cy (X : Cx) (Wx : WX) : Prop where
  tk : Takes X Wx
  sf : ∃ E : XK, Wx = fun c d _ H => E c d H
  hu : X.A.units + 64 < cLine
  calm : X.calm = true
  nd : X.N.Nodup
  po : PassesOwn (model X.prog X.w) X.A X.env X.xe
theorem Cy.u16 {X : Cx} {Wx : WX} (y : Cy X Wx) : X.A.units + 16 < cLine := by have := y.hu; omega
theorem passes_of {X : Cx} {Wx : WX} {E : XK} (tk : Takes X Wx) (h : Wx = fun c d _ H => E c d H) : Passes (L2.CX X.prog X.w) X E := fun _ _ _ _ e s' I c => tk e s' (XE.of_call I (fun cls d H' x => by rw [h]; exact x) c)
section
variable {ca : CA} {Wx : WX} {X : Cx} {e a b c o : Expr} {na nb nc n no : Den} {pos p apos cpos : Pos} {es : List Expr} {ns : Dens}
theorem SdL.heads (h : SdL ca Wx X (e :: es) ns) (hp : plainA ns = true) : starEach (e :: es) X.env = (false, eval e X.env) :: starEach es X.env ∧ (backTo pos (starEach es X.env)).any (·.1) = false := by
  cases h with
  | cons h hs t => exact ⟨starEach_cons hs, t.noStar hp⟩
  | star h t => cases hp
  | starV _ h _ _ t => cases hp
theorem Wp.impE {α : Type} {w : World} {σ : L2.St} {W : Wd} {μ : Mu} {H : Hp} {m : M α} {P P' : Wd → Mu → Hp → α → Prop} (h : Wp w ca Wx m σ W μ H P) (k : ∀ W' μ' H' a, m μ = .ok a μ' → GS w ca W' μ' H' → Fr W H W' H' → P W' μ' H' a → P' W' μ' H' a) : Wp w ca Wx m σ W μ H P' := by
  unfold Wp at *
  cases e : m μ with
  | ok a μ' => rw [e] at h; exact fun W' H' g f => k W' μ' H' a e g f (h W' H' g f)
  | exc x μ' => rw [e] at h; exact h
  | bad => rw [e] at h; exact h
theorem evs_len {ρ : Rho} : ∀ {ns : Dens} {ds : List D} {μ μ' : Mu}, evs ρ ns μ = .ok ds μ' → plainA ns = true → ds.length = ns.length
  | [], _, _, _, h, _ => by
    have h : Res.ok [] _ = .ok _ _ := h
    cases h
    rfl
  | (st, n) :: ns, ds, μ, μ', h, hp => by
    cases st with
    | true => cases hp
    | false =>
      have h : (n.v ρ >>= fun d => evs ρ ns >>= fun m => M.ret ([d] ++ m)) μ = .ok ds μ' := h
      obtain ⟨d, μ1, e1, h⟩ := bind_ok h
      have h : (evs ρ ns >>= fun m => M.ret ([d] ++ m)) μ1 = .ok ds μ' := h
      obtain ⟨m, μ3, e3, h⟩ := bind_ok h
      cases h
      have hp : plainA ns = true := hp
      simp [evs_len e3 hp]
theorem passesAt (y : Cy X Wx) (σ : L2.St) : PassesAt (L2.CX X.prog X.w) X σ (WE Wx σ) := passAt y.tk σ
theorem Sd.call {x : Str} {f : Addr} {k m : Nat} {fn : Fn} (F : FnM X.prog X.w X.K X.mg X.base ca k f m [] fn) (hr : Room k X.A) (tk : Takes X Wx) (hg : Gl X x) (hm : X.mg x = some (.ref f)) (h : SdL ca Wx X (e :: es) ns) (hp : plainA ns = true) (hl : ns.length = m)
    (hd : (x == ("__debug__" : Str)) = false := by decide) : Sd ca Wx X (.Call (.Name x p) (e :: es) [] pos) (Dn.call fn ns) := by
  obtain ⟨⟨fd, ps, ds, dvs, F, B, V, R⟩, kp⟩ := F
  obtain ⟨h1, h2⟩ := h.heads (pos := pos) hp
  refine .ofV (PE.of (pe_callSD (E := WE Wx) F hr hg hm kp B V (fun σ => passAt tk σ) h.pa hd h1 h2) fun σ H K ⟨W, ρ, μ, g, r, hw⟩ => ?_) rfl
  refine ⟨W, ρ, μ, g, r, hw.bind.impE fun W1 μ1 H1 ds e g1 f1 q vs rv => ?_⟩
  have R1 : dvs = [] := R W1
  subst R1
  show spM X.w ca m fn (vs ++ []) H1 K (WE Wx σ)
  rw [List.append_nil]
  exact ⟨W1, μ1, ds, g1, rv, by rw [evs_len e hp, hl], Wp.flat q⟩
/-- an instance and its method's arguments -/
theorem meth_read {cl mm : String} {fn : Fn} {σ : L2.St} {H : Hp} {K : VK} (h : TV X.w ca Wx (fun ρ => callC cl mm fn no ns ρ) σ H K) : ∃ W ρ μ, GS X.w ca W μ H ∧ SR X.w ca W H σ ρ ∧ Wp X.w ca Wx (no.v ρ) σ W μ H fun W1 μ1 H1 x => ∀ u, Rep X.w ca W1 x u → ∃ a dx fs, u = .ref a ∧ H1 a = some (.ins (ca cl) dx fs) ∧ fs.lookup (Str.ofString mm) = none ∧
    Wp X.w ca Wx (do
      let ds ← evs ρ ns
      fn (x :: ds)) σ W1 μ1 H1 fun W' _ H' d => ∀ v, Rep X.w ca W' d v → K v H' := by
  obtain ⟨W, ρ, μ, g, r, hw⟩ := h
  refine ⟨W, ρ, μ, g, r, hw.bind.imp fun W1 μ1 H1 x g1 f1 h1 u ru => ?_⟩
  obtain ⟨o, ho, _, h2⟩ := content_ok g1 ru h1.bind
  have h2 := h2 W1 H1 g1 (Mp.Fr.refl W1 H1)
  have h4 : Wp X.w ca Wx (if isM cl mm o = true then (do
      let ds ← evs ρ ns
      fn (x :: ds)) else M.bad) σ W1 μ1 H1 fun W' _ H' d => ∀ v, Rep X.w ca W' d v → K v H' := h2
  clear h2
  cases hc : isM cl mm o with
  | false =>
    rw [hc, if_neg Bool.false_ne_true] at h4
    exact (Wp.bad h4).elim
  | true =>
    rw [hc, if_pos rfl] at h4
    cases o with
    | obj k l =>
      have hc : (k == cl && (l.lookup mm).isNone) = true := hc
      simp only [Bool.and_eq_true, beq_iff_eq, Option.isNone_iff_eq_none] at hc
      obtain ⟨rfl, hn⟩ := hc
      obtain ⟨a, dx, fs, rfl, ea, rf⟩ := cn_obj ho
      exact ⟨a, dx, fs, rfl, ea, rf.noLook hn, h4⟩
    | _ => cases hc
theorem Sd.meth {pl : Sem Bool} {cl mm : String} {f : Addr} {k m : Nat} {fn : Fn} (F : FnM X.prog X.w X.K X.mg X.base ca k f m [] fn) (hr : Room k X.A) (y : Cy X Wx) (ho : Sd ca Wx X o no) (hc : Cls X.K (ca cl)) (hm : Meth X.K (ca cl) (Str.ofString mm) f)
    (h : SdL ca Wx X (e :: es) ns) (hp : plainA ns = true) (hl : ns.length + 1 = m)
    (ht : eval (.Call (.Attribute o (Str.ofString mm) apos) (e :: es) [] pos) X.env = (do
      let ov ← eval o X.env
      standAt apos.atName
      let (f, first) ← holding [ov] (getMethod ov (Str.ofString mm) pl)
      callWith pos f first (backTo pos (starEach (e :: es) X.env)) (backToKw pos (keywordEach [] X.env))) := by rfl) :
    Sd ca Wx X (.Call (.Attribute o (Str.ofString mm) apos) (e :: es) [] pos) (Dn.meth cl mm fn no ns) := by
  obtain ⟨⟨fd, ps, ds, dvs, F, B, V, R⟩, kp⟩ := F
  obtain ⟨h1, h2⟩ := h.heads (pos := pos) hp
  obtain ⟨E, hE⟩ := y.sf
  refine .ofV (PE.of (pe_meth ho.v hc hm F hr B V (passes_of y.tk hE) h.pa h1 h2 ht) fun σ H K hw => ?_) rfl
  obtain ⟨W, ρ, μ, g, r, hw⟩ := meth_read hw
  refine ⟨W, ρ, μ, g, r, hw.imp fun W1 μ1 H1 x g1 f1 h1 u ru => ?_⟩
  obtain ⟨a, dx, fs, rfl, ea, hn, h3⟩ := h1 u ru
  refine ⟨a, dx, fs, rfl, ea, hn, W1, ρ, μ1, g1, r.fr f1, h3.bind.impE fun W2 μ2 H2 ds e g2 f2 q vs rv => ?_⟩
  have R1 : dvs = [] := R W1
  subst R1
  show spM X.w ca m fn (.ref a :: (vs ++ [])) H2 K E
  rw [List.append_nil]
  have q := Wp.flat q
  rw [hE] at q
  exact ⟨W2, μ2, x :: ds, g2, ⟨_, _, rfl, Rep.mono f2.le x _ ru, rv⟩, by rw [List.length_cons, evs_len e hp, hl], q⟩
theorem Sd.meth0 {pl : Sem Bool} {cl mm : String} {f : Addr} {k : Nat} {fn : Fn} (F : FnM X.prog X.w X.K X.mg X.base ca k f 1 [] fn) (hr : Room k X.A) (y : Cy X Wx) (ho : Sd ca Wx X o no) (hc : Cls X.K (ca cl)) (hm : Meth X.K (ca cl) (Str.ofString mm) f)
    (ht : eval (.Call (.Attribute o (Str.ofString mm) apos) [] [] pos) X.env = (do
      let ov ← eval o X.env
      standAt apos.atName
      let (f, first) ← holding [ov] (getMethod ov (Str.ofString mm) pl)
      callWith pos f first (backTo pos (starEach [] X.env)) (backToKw pos (keywordEach [] X.env))) := by rfl) :
    Sd ca Wx X (.Call (.Attribute o (Str.ofString mm) apos) [] [] pos) (Dn.meth cl mm fn no []) := by
  obtain ⟨⟨fd, ps, ds, dvs, F, B, V, R⟩, kp⟩ := F
  obtain ⟨E, hE⟩ := y.sf
  refine .ofV (PE.of (pe_meth0 ho.v hc hm F hr B V (passes_of y.tk hE) ht) fun σ H K hw => ?_) rfl
  obtain ⟨W, ρ, μ, g, r, hw⟩ := meth_read hw
  refine ⟨W, ρ, μ, g, r, hw.imp fun W1 μ1 H1 x g1 f1 h1 u ru => ?_⟩
  obtain ⟨a, dx, fs, rfl, ea, hn, h3⟩ := h1 u ru
  have R1 : dvs = [] := R W1
  subst R1
  have q : Wp X.w ca Wx (fn [x]) σ W1 μ1 H1 _ := h3
  have q := Wp.flat q
  rw [hE] at q
  exact ⟨a, dx, fs, rfl, ea, hn, W1, μ1, [x], g1, ⟨_, [], rfl, ru, rfl⟩, rfl, q⟩

/-! ### a new instance -/
theorem run_makeS {CX : CXT} {k : Nat} {C f : Addr} {fd : FuncData} {ps : List Str} {sp : Sp} {dvs : List V} {ds : List Value} {E : XK} {pins : List (Addr × Obj)} {σ : L2.St} {H : Hp} {s : Shared} {Q : VK} {us : List Value} {vs : List V}
    (M : Mk X.K C f) (F : FnOk X.prog X.w X.K X.mg X.base CX k f fd ps sp) (hr : Room (k + 1) X.A) (hb : Binds X.K fd ps ds) (hd : Vals dvs ds) (hx : PassesAt CX X σ E) (I : Inv X pins σ H s) (r : Vals vs us)
    (h : ∀ x dx, H x = none → H dx = none → dx ≠ x → sp (.ref x :: (vs ++ dvs)) (upd (upd H dx (.own x)) x (.ins C dx [])) (fun v H2 => v = .non ∧ Q (.ref x) H2) E) :
    wpAny (model X.prog X.w) X.A (call (.ref C) us) (EP X pins σ Q) X.xe s := by
  have J := Inv.made (C := C) I
  have want := h _ _ (I.hok.fresh (Nat.le_succ s.heap.objs.size)) (I.hok.fresh (Nat.le_refl _)) (Nat.ne_of_lt (Nat.lt_succ_self _))
  have all : Vals (V.ref (s.heap.objs.size + 1) :: (vs ++ dvs)) (Value.ref (s.heap.objs.size + 1) :: (us ++ ds)) := .cons rfl (r.append hd)
  have many : (Value.ref (s.heap.objs.size + 1) :: us ++ ds).length = ps.length := by
    have z := all.length
    rw [F.len _ _ _ _ want] at z
    exact z.symm
  have body := F.run _ X.stack _ _ ⟨Value.ref (s.heap.objs.size + 1) :: us, []⟩ (Value.ref (s.heap.objs.size + 1) :: (us ++ ds)) _ _ E (hr.make C us []) (J.env0.make C us []) (hb _ (Value.ref (s.heap.objs.size + 1) :: us) J.kIn many) all want
  refine wpAny_call (make_map (f := f) I.kIn M.makes M.init (beq_iff_eq.mp M.fn) (codeAny_mono body fun r t ht => ?_))
  cases r with
  | error z => exact hx pins _ _ z t J ht
  | ok fl => cases fl with
    | ret z =>
      obtain ⟨v, H', I', rv, ev, fin⟩ := J.after ht
      subst ev
      exact ⟨rv, V.ref (s.heap.objs.size + 1), H', I', rfl, fin⟩
    | next => exact ht.elim
    | brk => exact ht.elim
    | cont => exact ht.elim
def tMakeS (C : Addr) (sp : Sp) (dvs : List V) (E : L2.St → XK) (t : TA) : TE := fun σ H Q => t σ H fun vs H1 => ∀ x dx, H1 x = none → H1 dx = none → dx ≠ x →
  sp (.ref x :: (vs ++ dvs)) (upd (upd H1 dx (.own x)) x (.ins C dx [])) (fun v H2 => v = .non ∧ Q (.ref x) H2) (E σ)
theorem pe_makeS {CX : CXT} {k : Nat} {x : Str} {C f : Addr} {fd : FuncData} {ps : List Str} {sp : Sp} {dvs : List V} {ds : List Value} {E : L2.St → XK} {t : TA} (M : Mk X.K C f) (F : FnOk X.prog X.w X.K X.mg X.base CX k f fd ps sp) (hr : Room (k + 1) X.A) (hg : Gl X x) (hm : X.mg x = some (.ref C)) (hb : Binds X.K fd ps ds) (hd : Vals dvs ds)
    (hx : ∀ σ, PassesAt CX X σ (E σ)) (ha : PA X (e :: es) t) (he : starEach (e :: es) X.env = (false, eval e X.env) :: starEach es X.env) (hpl : (backTo pos (starEach es X.env)).any (·.1) = false) (hdb : (x == ("__debug__" : Str)) = false := by decide) :
    PE X (.Call (.Name x p) (e :: es) [] pos) (tMakeS C sp dvs E t) :=
  ⟨fun pins s σ H Q I h => wpAny_Call_Name_kw (ld_glob I hg hm (PySem.W.callWith_K (h₀ := X.base) I.ok.mod.kin M.kp (thn (ha.run pos pins s σ H _ I h) fun us s1 ⟨vs, H1, I1, r, q⟩ => ⟨I1.kIn, run_makeS M F hr hb hd (hx σ) I1 r q⟩) he hpl) hdb)⟩
theorem make_wp {w : World} {cl : String} {fn : Fn} {ds : List D} {σ : L2.St} {W : Wd} {μ : Mu} {H : Hp} {P : Wd → Mu → Hp → D → Prop} (g : GS w ca W μ H) (h : Wp w ca Wx (makeM cl fn ds) σ W μ H P) {x dx : Addr} (hx : H x = none) (hdx : H dx = none) (hne : dx ≠ x) :
    GS w ca (W.new x) (μ ++ [some (.obj cl [])]) (upd (upd H dx (.own x)) x (.ins (ca cl) dx [])) ∧ Fr W H (W.new x) (upd (upd H dx (.own x)) x (.ins (ca cl) dx [])) ∧ (W.new x).ι[μ.length]? = some x ∧
    Wp w ca Wx (fn (.loc μ.length :: ds)) σ (W.new x) (μ ++ [some (.obj cl [])]) (upd (upd H dx (.own x)) x (.ins (ca cl) dx [])) fun W' μ' H' r => r = .non ∧ P W' μ' H' (.loc μ.length) := by
  have g1 := g.beside (o := .own x) hdx
  have hx1 : upd H dx (.own x) x = none := by rw [upd_ne (Ne.symm hne)]; exact hx
  have f1 : Fr W H W (upd H dx (.own x)) := Mp.Fr.beside hdx
  have g2 := g1.new (o := .ins (ca cl) dx []) (d := .obj cl []) hx1 ⟨dx, [], upd_same, rfl⟩
  have f2 := f1.trans (Mp.Fr.new (o := .ins (ca cl) dx []) g1 hx1)
  refine ⟨g2, f2, ?_, ?_⟩
  · show (W.ι ++ [x])[μ.length]? = some x
    rw [← g.len, List.getElem?_concat_length]
  · unfold Wp at h ⊢
    have e0 : makeM cl fn ds μ = (fn (.loc μ.length :: ds) (μ ++ [some (.obj cl [])])).bind fun r => isNon r μ.length := rfl
    rw [e0] at h
    cases e : fn (.loc μ.length :: ds) (μ ++ [some (.obj cl [])]) with
    | ok r μ' =>
      rw [e] at h
      cases r with
      | non => exact fun W' H' g' f' => ⟨rfl, h W' H' g' (f2.trans f')⟩
      | _ => exact h.elim
    | exc z μ' =>
      rw [e] at h
      exact fun W' H' c d g' f' => h W' H' c d g' (f2.trans f')
    | bad =>
      rw [e] at h
      exact h
theorem Sd.make {x : Str} {cl : String} {f : Addr} {k m : Nat} {df : List D} {fn : Fn} (F : FnM X.prog X.w X.K X.mg X.base ca k f m df fn) (M : Mk X.K (ca cl) f) (hr : Room (k + 1) X.A) (tk : Takes X Wx) (hg : Gl X x) (hm : X.mg x = some (.ref (ca cl)))
    (h : SdL ca Wx X (e :: es) ns) (hp : plainA ns = true) (hl : ns.length + df.length + 1 = m) (hd : (x == ("__debug__" : Str)) = false := by decide) : Sd ca Wx X (.Call (.Name x p) (e :: es) [] pos) (Dn.make cl fn ns df) := by
  obtain ⟨⟨fd, ps, ds, dvs, F, B, V, R⟩, kp⟩ := F
  obtain ⟨h1, h2⟩ := h.heads (pos := pos) hp
  refine .ofV (PE.of (pe_makeS (E := WE Wx) M F hr hg hm B V (fun σ => passAt tk σ) h.pa h1 h2 hd) fun σ H K ⟨W, ρ, μ, g, r, hw⟩ => ?_) rfl
  refine ⟨W, ρ, μ, g, r, hw.bind.impE fun W1 μ1 H1 ds e g1 f1 q vs rv ad dx hx hdx hne => ?_⟩
  obtain ⟨g2, f2, ix, q2⟩ := make_wp g1 q hx hdx hne
  refine ⟨_, _, .loc μ1.length :: (ds ++ df), g2, ⟨.ref ad, vs ++ dvs, rfl, ⟨ad, rfl, ix⟩, Reps.mono f2.le _ _ (rv.append (R W1))⟩, ?_, (Wp.flat q2).imp fun W3 μ3 H3 r g3 f3 h3 v hv => ?_⟩
  · rw [List.length_cons, List.length_append, evs_len e hp, hl]
  · obtain ⟨rfl, h4⟩ := h3
    exact ⟨hv, h4 _ ⟨ad, rfl, f3.le.ix ix⟩⟩

/-! ### o.p, o[k], x in o, by the text's own defs -/
theorem noE {P : Program} {w : World} {outer : List Env} {H : Hp} {s : Shared} {u : Value} {s' : Shared} : ¬ L2.CX P w outer H s (fun _ _ _ => False) u s' := fun ⟨_, _, _, _, _, _, _, _, _, _, _, _, z⟩ => z
theorem noExc_flat {w : World} {m : M D} {σ : L2.St} {W : Wd} {μ : Mu} {H : Hp} {P : Wd → Mu → Hp → D → Prop} (h : Wp w ca Wx (noExc m) σ W μ H P) : Wp w ca (fun _ _ _ _ => False) m [] W μ H P := by
  unfold Wp at *
  cases e : m μ with
  | ok a μ' =>
    have e2 : noExc m μ = .ok a μ' := by unfold noExc; rw [e]
    rw [e2] at h
    exact h
  | exc x μ' =>
    have e2 : noExc m μ = .bad := by unfold noExc; rw [e]
    rw [e2] at h
    exact h.elim
  | bad =>
    have e2 : noExc m μ = .bad := by unfold noExc; rw [e]
    rw [e2] at h
    exact h
theorem isC_wp {α : Type} {w : World} {cl : String} {o : D} {v : V} {m : M α} {σ : L2.St} {W : Wd} {μ : Mu} {H : Hp} {P : Wd → Mu → Hp → α → Prop} (hc : Cn w ca W H o v) (h : Wp w ca Wx (if isC cl o = true then m else M.bad) σ W μ H P) :
    ∃ a dx fs, v = .ref a ∧ H a = some (.ins (ca cl) dx fs) ∧ Wp w ca Wx m σ W μ H P := by
  cases z : isC cl o with
  | false =>
    rw [z, if_neg Bool.false_ne_true] at h
    exact (Wp.bad h).elim
  | true =>
    rw [z, if_pos rfl] at h
    cases o with
    | obj k l =>
      have z : (k == cl) = true := z
      obtain rfl := beq_iff_eq.mp z
      obtain ⟨a, dx, fs, rfl, ea, rf⟩ := cn_obj hc
      exact ⟨a, dx, fs, rfl, ea, h⟩
    | _ => cases z
theorem Sd.prop {pp cl : String} {pa f : Addr} {k : Nat} {fn : Fn} (F : FnM X.prog X.w X.K X.mg X.base ca k f 1 [] fn) (hr : Room (k + 1) X.A) (ho : Sd ca Wx X o no) (hc : Cls X.K (ca cl)) (hp : PropOf X.K (ca cl) (Str.ofString pp) pa f)
    (hab : attributeBase o (Str.ofString pp) X.env (eval o X.env) = eval o X.env := by rfl) : Sd ca Wx X (.Attribute o (Str.ofString pp) pos) (Dn.prop cl fn no) := by
  obtain ⟨⟨fd, ps, ds, dvs, F, B, V, R⟩, kp⟩ := F
  refine .ofV (PE.of (pe_prop (E := fun _ _ _ => False) ho.v hc hp F hr B V (fun _ _ _ _ _ _ _ z => (noE z).elim) hab) fun σ H K ⟨W, ρ, μ, g, r, hw⟩ => ?_) rfl
  refine ⟨W, ρ, μ, g, r, hw.bind.imp fun W1 μ1 H1 x g1 f1 h1 u ru => ?_⟩
  obtain ⟨o, ho, _, h2⟩ := content_ok g1 ru h1.bind
  obtain ⟨a, dx, fs, rfl, ea, h3⟩ := isC_wp ho (h2 W1 H1 g1 (Mp.Fr.refl W1 H1))
  have R1 : dvs = [] := R W1
  subst R1
  exact ⟨a, dx, fs, rfl, ea, W1, μ1, [x], g1, ⟨_, [], rfl, ru, rfl⟩, rfl, noExc_flat h3⟩
end
end Mp

/-! o[k] and x in o by the text's own defs (own work). -/
namespace Mp
open PySem PySem.Spec PyProof.Rows L2

section
variable {prog : Program} {w : World} {A : Around} {E : Value → Shared → Prop} {s : Shared} {K : PySem.W.Frag} {x C f : Addr} {ox : Obj} {od : Option Obj} {v i : Value}
theorem own_in {Q : Bool → Shared → Prop} (hk : K.In s.heap) (I : PySem.W.InstAt s.heap x ox C od) (hs : PySem.W.findIn K (.ref C) "__contains__" = some (some (.ref f))) (hf : PySem.W.isFn K (.ref f) = true)
    (h : wpAny (model prog w) A (call (.ref f) [.ref x, v]) (fun r s' => wpAny (model prog w) A (truthy r) Q E s') E s) : wpAny (model prog w) A (contains (.ref x) v) Q E s := by
  unfold contains
  refine wpAny_holding ?_
  refine wpAny_bind (wpAny_bind (I.type.here ((PySem.W.looks_findIn hk hs).here ?_)))
  rw [if_neg (by simp)]
  exact wpAny_bind (PySem.W.unlessNone_K hk I hs hf h)
theorem own_item {value slice : Expr} {Q : Value → Shared → Prop} (hk : K.In s.heap) (I : PySem.W.InstAt s.heap x ox C od) (hs : PySem.W.findIn K (.ref C) "__getitem__" = some (some (.ref f))) (hf : PySem.W.fnIn K f = true) (hfn : PySem.W.isFn K (.ref f) = true)
    (h : wpAny (model prog w) A.in1 (call (.ref f) [.ref x, i]) Q E s) (hsl : subscripted slice true (.ref x) i = runValue (.builtin "lifetime.subscript" ⟨[.ref x, i], []⟩)) : wpAny (model prog w) A (subscriptTail value slice (.ref x) i) Q E s := by
  have out : ∀ r s', Q r s' → wpAny (model prog w) A (letTemporaryGo value (.ref x) r >>= fun _ => pure r) Q E s' := fun r s' q => wpAny_bind (wpAny_letTemporaryGo (wpAny_pure q))
  have run : wpAny (model prog w) A (subscripted slice true (.ref x) i) (fun r s' => wpAny (model prog w) A (letTemporaryGo value (.ref x) r >>= fun _ => pure r) Q E s') E s := by
    rw [hsl]
    refine wpAny_runValue (codeAny_builtin PySem.W.entry_sub ?_)
    unfold Builtin.«lifetime.subscript»
    exact wpAny_bind (PySem.W.special_fn hk I hs (beq_iff_eq.mp hfn) (wpAny_mono h (fun r s' q => wpAny_pure (out r s' q)) fun _ _ z => z))
  unfold PySem.W.fnIn at hf
  split at hf
  · rename_i e
    unfold subscriptTail getitemInPython
    refine wpAny_bind (wpAny_bind (wpAny_bind (I.type.here ((PySem.W.looks_findIn hk hs).here ?_))))
    refine wpAny_bind (wpAny_load (hk _ _ e) (wpAny_pure ?_))
    exact wpAny_bind run
  · cases hf
end

/-- what the text says of a dunder of a class -/
structure Dun (K : PySem.W.Frag) (C : Addr) (m : Str) (f : Addr) : Prop where
  at_ : PySem.W.findIn K (.ref C) m = some (some (.ref f))
  fn : PySem.W.isFn K (.ref f) = true
  fi : PySem.W.fnIn K f = true
section
variable {ca : CA} {Wx : WX} {X : Cx} {e a b c o : Expr} {na nb nc n no : Den} {pos p apos cpos : Pos} {es : List Expr} {ns : Dens}
theorem Sd.item {cl : String} {f : Addr} {k : Nat} {fn : Fn} (F : FnM X.prog X.w X.K X.mg X.base ca k f 2 [] fn) (hr : Room (k + 1) X.A) (ho : Sd ca Wx X o no) (ha : Sd ca Wx X a na) (hm : Dun X.K (ca cl) "__getitem__" f)
    (hsl : ∀ x i, subscripted a true (.ref x) i = runValue (.builtin "lifetime.subscript" ⟨[.ref x, i], []⟩)) : Sd ca Wx X (.Subscript o a pos) (Dn.item cl fn no na) := by
  obtain ⟨⟨fd, ps, ds, dvs, F, B, Vd, R⟩, kp⟩ := F
  refine .ofV ⟨fun pins s σ H K I ⟨W, ρ, μ, g, r, hw⟩ => ?_⟩ rfl
  refine Subscript_ (thn (ho.v.run pins s σ H (fun u H1 => ∃ W1 μ1 x, GS X.w ca W1 μ1 H1 ∧ SR X.w ca W1 H1 σ ρ ∧ Rep X.w ca W1 x u ∧ Wp X.w ca Wx (do
      let k ← na.v ρ
      let o ← content x
      if isC cl o then noExc (fn [x, k]) else M.bad) σ W1 μ1 H1 fun W' _ H' d => ∀ v, Rep X.w ca W' d v → K v H') I ⟨W, ρ, μ, g, r, hw.bind.imp fun W1 μ1 H1 x g1 f1 h1 v rv => ⟨W1, μ1, x, g1, r.fr f1, rv, h1⟩⟩) fun u s1 ⟨v, H1, I1, r1, W1, μ1, x, g1, sr1, rx, h1⟩ => ?_)
  refine thn (ha.v.run pins s1 σ H1 (fun u H2 => ∃ W2 μ2 k, GS X.w ca W2 μ2 H2 ∧ Rep X.w ca W2 x v ∧ Rep X.w ca W2 k u ∧ Wp X.w ca Wx (do
      let o ← content x
      if isC cl o then noExc (fn [x, k]) else M.bad) σ W2 μ2 H2 fun W' _ H' d => ∀ v, Rep X.w ca W' d v → K v H') I1 ⟨W1, ρ, μ1, g1, sr1, h1.bind.imp fun W2 μ2 H2 k g2 f2 h2 u ru => ⟨W2, μ2, k, g2, Rep.mono f2.le _ _ rx, ru, h2⟩⟩) fun iv s2 ⟨y, H2, I2, r2, W2, μ2, k, g2, rx2, rk, h2⟩ => ?_
  obtain ⟨ob, hob, _, h3⟩ := content_ok g2 rx2 h2.bind
  obtain ⟨ad, dx, fs, rfl, ea, h4⟩ := isC_wp hob (h3 W2 H2 g2 (Mp.Fr.refl W2 H2))
  cases r1
  obtain ⟨mA, O, _⟩ := ins_get I2.hok ea
  obtain ⟨od, J, _⟩ := O.look
  have R1 : dvs = [] := R W2
  subst R1
  have want : spM X.w ca 2 fn (([V.ref ad, y]) ++ []) H2 K (fun _ _ _ => False) := ⟨W2, μ2, [x, k], g2, ⟨_, _, rfl, rx2, _, [], rfl, rk, rfl⟩, rfl, noExc_flat h4⟩
  have hl : ([Value.ref ad, iv] ++ ds).length = ps.length := by
    rw [← F.len _ _ _ _ want, List.length_append, List.length_append, Vd.length]
    rfl
  refine own_item I2.kIn J hm.at_ hm.fi hm.fn (wpAny_call (codeAny_mono (F.run X.A.in1 X.stack s2 H2 ⟨[.ref ad, iv], []⟩ ([.ref ad, iv] ++ ds) _ K (fun _ _ _ => False) hr.in1 I2.env0.in1 (B s2 [.ref ad, iv] I2.kIn hl) ((show Vals [V.ref ad, y] [Value.ref ad, iv] from .cons rfl (.cons r2 .nil)).append Vd) want) fun r s' hq => ?_)) (hsl ad iv)
  cases r with
  | error z => exact (noE hq).elim
  | ok fl => cases fl with
    | ret z => exact I2.after hq
    | next => exact hq.elim
    | brk => exact hq.elim
    | cont => exact hq.elim
def rAmong (w : World) (ca : CA) (cl : String) (fn : Fn) (neg : Bool) : R2 := fun x y H Q => ∃ W μ a dx fs d e, GS w ca W μ H ∧ Rep w ca W d x ∧ Rep w ca W e y ∧ y = .ref a ∧ H a = some (.ins (ca cl) dx fs) ∧
  Wp w ca (fun _ _ _ _ => False) (fn [e, d]) [] W μ H fun W' _ H' r => ∃ b, r = .bl b ∧ Q (.bl (b != neg)) H'
def amOp : Bool → CmpOp
  | false => .In
  | true => .NotIn
theorem op_among {cl : String} {f : Addr} {k : Nat} {fn : Fn} (neg : Bool) (F : FnM X.prog X.w X.K X.mg X.base ca k f 2 [] fn) (hr : Room k X.A) (hm : Dun X.K (ca cl) "__contains__" f) : OpR X (compareOp (amOp neg)) (rAmong X.w ca cl fn neg) := by
  intro pins s σ H x y v u K I rx ry h
  obtain ⟨W, μ, ad, dx, fs, d, e, g, rd, re, rfl, ea, hw⟩ := h
  obtain ⟨⟨fd, ps, ds, dvs, F, B, Vd, R⟩, kp⟩ := F
  cases ry
  obtain ⟨mA, O, _⟩ := ins_get I.hok ea
  obtain ⟨od, J, _⟩ := O.look
  have R1 : dvs = [] := R W
  subst R1
  have want : spM X.w ca 2 fn (([V.ref ad, x]) ++ []) H (fun r H' => ∃ b, r = V.bl b ∧ K (.bl (b != neg)) H') (fun _ _ _ => False) := ⟨W, μ, [e, d], g, ⟨_, _, rfl, re, _, [], rfl, rd, rfl⟩, rfl, hw.imp fun W' μ' H' r g' f' ⟨b, e, q⟩ v rv => by
    subst e
    exact ⟨b, rv, q⟩⟩
  have hl : ([Value.ref ad, v] ++ ds).length = ps.length := by
    rw [← F.len _ _ _ _ want, List.length_append, List.length_append, Vd.length]
    rfl
  have inn : wpAny (model X.prog X.w) X.A (contains (.ref ad) v) (fun b s' => ∃ H', Inv X pins σ H' s' ∧ K (.bl (b != neg)) H') X.xe s := by
    refine own_in I.kIn J hm.at_ hm.fn (wpAny_call (codeAny_mono (F.run X.A X.stack s H ⟨[.ref ad, v], []⟩ ([.ref ad, v] ++ ds) _ _ (fun _ _ _ => False) hr I.env0 (B s [.ref ad, v] I.kIn hl) ((show Vals [V.ref ad, x] [Value.ref ad, v] from .cons rfl (.cons rx .nil)).append Vd) want) fun r s' hq => ?_))
    cases r with
    | error z => exact (noE hq).elim
    | ok fl => cases fl with
      | ret z =>
        obtain ⟨vv, H', I', rv, b, rfl, q⟩ := I.after hq
        cases rv
        exact wpAny_truthy_bool ⟨H', I', q⟩
      | next => exact hq.elim
      | brk => exact hq.elim
      | cont => exact hq.elim
  cases neg with
  | false => exact wpAny_bind (thn inn fun b s' ⟨H', I', q⟩ => wpAny_pure ⟨.bl b, H', I', rfl, by cases b <;> exact q⟩)
  | true => exact wpAny_bind (thn inn fun b s' ⟨H', I', q⟩ => wpAny_pure ⟨.bl (!b), H', I', rfl, by cases b <;> exact q⟩)
theorem among_read {cl : String} {fn : Fn} {neg : Bool} {σ : L2.St} {H : Hp} {K : Bool → Hp → Prop} (h : TB X.w ca Wx (evIn neg cl fn na no) σ H K) : tOp (rAmong X.w ca cl fn neg) (TV X.w ca Wx na.v) (TV X.w ca Wx no.v) σ H fun x H' => ∃ k, x = .bl k ∧ K k H' := by
  obtain ⟨W, ρ, μ, g, r, hw⟩ := h
  refine ⟨W, ρ, μ, g, r, hw.bind.imp fun W1 μ1 H1 y g1 f1 h1 v rv => ⟨W1, ρ, μ1, g1, r.fr f1, h1.bind.imp fun W2 μ2 H2 x g2 f2 h2 u ru => ?_⟩⟩
  obtain ⟨ob, hob, _, h3⟩ := content_ok g2 ru h2.bind
  have h3 : Wp X.w ca Wx (if isC cl ob = true then (noExc (fn [x, y]) >>= fun r => amongC neg r) else M.bad) σ W2 μ2 H2 _ := h3 W2 H2 g2 (Mp.Fr.refl W2 H2)
  obtain ⟨ad, dx, fs, rfl, ea, h4⟩ := isC_wp hob h3
  refine ⟨W2, μ2, ad, dx, fs, y, x, g2, Rep.mono f2.le _ _ rv, ru, rfl, ea, (noExc_flat h4.bind).imp fun W3 μ3 H3 r g3 f3 h5 => ?_⟩
  cases r <;> first | exact (Wp.bad h5).elim | skip
  rename_i b
  exact ⟨b, rfl, b != neg, rfl, h5.ret g3 _ rfl⟩
theorem Sd.among {cl : String} {f : Addr} {k : Nat} {fn : Fn} {neg : Bool} (F : FnM X.prog X.w X.K X.mg X.base ca k f 2 [] fn) (hr : Room k X.A) (hm : Dun X.K (ca cl) "__contains__" f) (ha : Sd ca Wx X a na) (ho : Sd ca Wx X o no) (hs : notSet o = true) :
    Sd ca Wx X (.Compare a [amOp neg] [o] pos) (Dn.among neg cl fn na no) := by
  have v : PE X (.Compare a [amOp neg] [o] pos) (TV X.w ca Wx (Dn.among neg cl fn na no).v) := PE.of (pe_cmpR (op_among (ca := ca) neg F hr hm) ha.v ho.v (notSet_ok hs)) fun σ H K ⟨W, ρ, μ, g, r, hw⟩ => by
    have q := among_read (K := fun b H' => K (.bl b) H') ⟨W, ρ, μ, g, r, (Wp.map_bl hw).imp fun W1 μ1 H1 b g1 f1 h1 b' e => by subst e; exact h1⟩
    obtain ⟨W, ρ, μ, g, r, hw⟩ := q
    refine ⟨W, ρ, μ, g, r, hw.imp fun W1 μ1 H1 x g1 f1 h1 v rv => ?_⟩
    obtain ⟨W2, ρ2, μ2, g2, r2, hw2⟩ := h1 v rv
    refine ⟨W2, ρ2, μ2, g2, r2, hw2.imp fun W3 μ3 H3 x g3 f3 h3 v rv => ?_⟩
    obtain ⟨W4, μ4, a4, d4, f4, c, d, g4, hc, hd, e4, l4, q4⟩ := h3 v rv
    exact ⟨W4, μ4, a4, d4, f4, c, d, g4, hc, hd, e4, l4, q4.imp fun W5 μ5 H5 r g5 f5 ⟨b, e, k, ek, kk⟩ => ⟨b, e, by cases ek; exact kk⟩⟩
  exact ⟨v, PT.of (pt_cmpR (op_among (ca := ca) neg F hr hm) ha.v ho.v (notSet_ok hs)) fun σ H K h => among_read h, Sd.q_of v⟩
end
end Mp

/-! What a for walks (own work). -/
namespace Mp
open PySem PySem.Spec PyProof.Rows L2

/-- the keys of a dict with tuples as keys, by its one object -/
def Itn (d : Addr) (o : Obj) (es : Array DictEntry) : It :=
  ⟨fun i H => H d = some (rawO d o) ∧ ∃ en b, es[i]? = some en ∧ en.key = .ref b, fun i H x H' => H' = H ∧ ∃ en b, es[i]? = some en ∧ en.key = .ref b ∧ x = .ref b, fun i H => H d = some (rawO d o) ∧ es.size ≤ i⟩
theorem turn_raw {P : Program} {w : World} {K : PySem.W.Frag} {tg : Expr} {d it : Addr} {o : Obj} {es : Array DictEntry} {ep : Nat} (hod : o.data = .dict es ep) : Turn P w K tg (Itn d o es) [it] it (fun i h => h.IsKeyIter it d i es.size ep) where
  mem := List.mem_singleton.mpr rfl
  obj := fun i h st b hb => by
    cases List.mem_singleton.mp hb
    obtain ⟨oi, e, _, z⟩ := st
    exact ⟨oi, e, fun v q => by rw [z] at q; cases q⟩
  keep := fun i h h' st k => st.at fun oi e => k it (List.mem_singleton.mpr rfl) oi e
  item := by
    intro X e1 e2 e3 hc i pins s σ H E I hf st ⟨hd, en, b, hen, hk⟩
    subst e1 e2 e3
    obtain ⟨f0, f1, _, f3, f4, f5⟩ := hf it (List.mem_singleton.mpr rfl)
    refine next_key_item st (raw_get I.hok hd) hod rfl hen fun h' st' sb => ?_
    have J : Inv X pins σ H { s with heap := h' } := I.turned (t' := s.toks) (fun c ob hc e => (sb.2 c hc).trans e) f0 f1 f3 f4 f5
    obtain ⟨oi, z1, z2, z3⟩ := id st'
    exact ⟨en.key, rfl, go_of (s := { s with heap := h' }) z1 z2 z3 (by decide) ⟨.ref b, H, J, hk, ⟨rfl, en, b, hen, hk, rfl⟩, st', fun c hc => (hf c hc).1⟩⟩
  done := by
    intro X e1 e2 e3 hc i pins s σ H E I hf st ⟨hd, hi⟩
    subst e1 e2 e3
    obtain ⟨f0, f1, _, f3, f4, f5⟩ := hf it (List.mem_singleton.mpr rfl)
    exact next_key_end (I.ok.hd hc) st (raw_get I.hok hd) hod rfl hi fun h' eb => ⟨rfl, I.turned (t' := s.toks) (fun c ob hc e => eb c ob hc e) f0 f1 f3 f4 f5⟩
  self := fun A i s Q E st h => wpAny_pyIter_keyiter st h
section
variable {w : World} {ca : CA} {W : Wd} {H : Hp} {K : PySem.W.Frag}
theorem it_list {a : Addr} {l : List D} {vs : List V} (e : W.S a = some (.lst vs)) (r : Reps w ca W l vs) : ItRep w ca W H (Itl K a) l := fun i W1 μ1 H1 g1 f1 => by
  have hs : SqL K H1 a vs := SqL.of (g1.sub _ _ (f1.s _ _ e))
  refine ⟨fun d hd => ?_, fun hi => ⟨vs, hs, by rw [r.length]; exact hi⟩⟩
  obtain ⟨v, hv, rv⟩ := r.get hd
  refine ⟨⟨vs, v, hs, hv⟩, fun x H2 ⟨e2, hx⟩ => ?_⟩
  subst e2
  have := hx vs hs
  rw [hv] at this
  cases this
  exact ⟨W1, g1, Mp.Fr.refl _ _, Rep.mono f1 d v rv⟩
theorem it_tup {a : Addr} {l : List D} {vs : List V} (e : W.S a = some (.tup vs)) (r : Reps w ca W l vs) : ItRep w ca W H (Itt K a) l := fun i W1 μ1 H1 g1 f1 => by
  have hs : SqT K H1 a vs := SqT.of (g1.sub _ _ (f1.s _ _ e))
  refine ⟨fun d hd => ?_, fun hi => ⟨vs, hs, by rw [r.length]; exact hi⟩⟩
  obtain ⟨v, hv, rv⟩ := r.get hd
  refine ⟨⟨vs, v, hs, hv⟩, fun x H2 ⟨e2, hx⟩ => ?_⟩
  subst e2
  have := hx vs hs
  rw [hv] at this
  cases this
  exact ⟨W1, g1, Mp.Fr.refl _ _, Rep.mono f1 d v rv⟩
theorem RepK.get : ∀ {l : List (D × D)} {kvs : List (Key × V)} {i : Nat} {p : D × D}, RepK w ca W l kvs → l[i]? = some p → ∃ k v, kvs[i]? = some (k, v) ∧ Rep w ca W p.1 (kV k) ∧ Rep w ca W p.2 v
  | [], _, _, _, _, e => by simp at e
  | q :: l, _, 0, p, r, e => by
    obtain ⟨k, v, t, rfl, a, b, c⟩ := r
    simp at e
    subst e
    exact ⟨k, v, rfl, a, b⟩
  | q :: l, _, i + 1, p, r, e => by
    obtain ⟨k, v, t, rfl, a, b, c⟩ := r
    obtain ⟨k', v', h1, h2⟩ := RepK.get (i := i) c (by simpa using e)
    exact ⟨k', v', by simpa using h1, h2⟩
theorem it_keys {a : Addr} {o : Obj} {l : List (D × D)} {kvs : List (Key × V)} (e : W.S a = some (.frz o (.dK kvs))) (r : RepK w ca W l kvs) : ItRep w ca W H (Itk a o kvs) (l.map (·.1)) := fun i W1 μ1 H1 g1 f1 => by
  have hs : H1 a = some (.frz o (.dK kvs)) := g1.sub _ _ (f1.s _ _ e)
  refine ⟨fun d hd => ?_, fun hi => ⟨hs, by rw [r.length]; simpa using hi⟩⟩
  rw [List.getElem?_map] at hd
  obtain ⟨p, hp, rfl⟩ := Option.map_eq_some_iff.mp hd
  obtain ⟨k, v, h1, h2, h3⟩ := r.get hp
  refine ⟨⟨hs, (List.getElem?_eq_some_iff.mp h1).1⟩, fun x H2 ⟨e2, k', v', hx, ex⟩ => ?_⟩
  subst e2
  rw [h1] at hx
  cases hx
  subst ex
  exact ⟨W1, g1, Mp.Fr.refl _ _, Rep.mono f1 _ _ h2⟩
theorem it_vals {a : Addr} {o : Obj} {l : List (D × D)} {kvs : List (Key × V)} (e : W.S a = some (.frz o (.dK kvs))) (r : RepK w ca W l kvs) : ItRep w ca W H (Itd a o kvs) (l.map (·.2)) := fun i W1 μ1 H1 g1 f1 => by
  have hs : H1 a = some (.frz o (.dK kvs)) := g1.sub _ _ (f1.s _ _ e)
  refine ⟨fun d hd => ?_, fun hi => ⟨hs, by rw [r.length]; simpa using hi⟩⟩
  rw [List.getElem?_map] at hd
  obtain ⟨p, hp, rfl⟩ := Option.map_eq_some_iff.mp hd
  obtain ⟨k, v, h1, h2, h3⟩ := r.get hp
  refine ⟨⟨hs, (List.getElem?_eq_some_iff.mp h1).1⟩, fun x H2 ⟨e2, k', hx⟩ => ?_⟩
  subst e2
  rw [h1] at hx
  cases hx
  exact ⟨W1, g1, Mp.Fr.refl _ _, Rep.mono f1 _ _ h3⟩
theorem RepN.get : ∀ {l : List (D × D)} {es : List DictEntry} {i : Nat} {p : D × D}, RepN w ca W l es → l[i]? = some p → ∃ en b, es[i]? = some en ∧ en.key = .ref b ∧ Rep w ca W p.1 (.ref b)
  | [], _, _, _, _, e => by simp at e
  | q :: l, _, 0, p, r, e => by
    obtain ⟨b, v, u, t, rfl, a, _⟩ := r
    simp at e
    subst e
    exact ⟨_, b, rfl, rfl, a⟩
  | q :: l, _, i + 1, p, r, e => by
    obtain ⟨b, v, u, t, rfl, a, _, _, c⟩ := r
    obtain ⟨en, b', h1, h2⟩ := RepN.get (i := i) c (by simpa using e)
    exact ⟨en, b', by simpa using h1, h2⟩
theorem RepN.length : ∀ {l : List (D × D)} {es : List DictEntry}, RepN w ca W l es → es.length = l.length
  | [], _, r => by have r : _ = [] := r; subst r; rfl
  | q :: l, _, r => by
    obtain ⟨b, v, u, t, rfl, a, _, _, c⟩ := r
    simp [RepN.length c]
theorem it_raw {a : Addr} {o : Obj} {l : List (D × D)} {es : Array DictEntry} (e : W.S a = some (rawO a o)) (r : RepN w ca W l es.toList) : ItRep w ca W H (Itn a o es) (l.map (·.1)) := fun i W1 μ1 H1 g1 f1 => by
  have hs : H1 a = some (rawO a o) := g1.sub _ _ (f1.s _ _ e)
  have hl := r.length
  rw [Array.length_toList] at hl
  refine ⟨fun d hd => ?_, fun hi => ⟨hs, by rw [hl]; simpa using hi⟩⟩
  rw [List.getElem?_map] at hd
  obtain ⟨p, hp, rfl⟩ := Option.map_eq_some_iff.mp hd
  obtain ⟨en, b, h1, h2, h3⟩ := r.get hp
  have h1 : es[i]? = some en := by simpa using h1
  refine ⟨⟨hs, en, b, h1, h2⟩, fun x H2 ⟨e2, en', b', hx, hb, ex⟩ => ?_⟩
  subst e2
  rw [h1] at hx
  cases hx
  rw [h2] at hb
  cases hb
  subst ex
  exact ⟨W1, g1, Mp.Fr.refl _ _, Rep.mono f1 _ _ h3⟩
theorem it_str {x : Str} : ItRep w ca W H (Its x) (x.cps.toList.map fun c => D.str ⟨#[c]⟩) := fun i W1 μ1 H1 g1 f1 => by
  refine ⟨fun d hd => ?_, fun hi => by rw [List.length_map, Array.length_toList] at hi; exact hi⟩
  rw [List.getElem?_map] at hd
  obtain ⟨c, hc, rfl⟩ := Option.map_eq_some_iff.mp hd
  have hc : x.cps[i]? = some c := by simpa using hc
  refine ⟨(Array.getElem?_eq_some_iff.mp hc).1, fun y H2 ⟨e2, c', h1, h2⟩ => ?_⟩
  subst e2
  rw [hc] at h1
  cases h1
  subst h2
  exact ⟨W1, g1, Mp.Fr.refl _ _, rfl⟩
theorem rangeL_get (c : Int) : ∀ (n : Nat) (a : Int) (i : Nat), (rangeL a c n)[i]? = if i < n then some (.int (a + (i : Nat) * c)) else none
  | 0, a, i => by simp [rangeL]
  | n + 1, a, 0 => by simp [rangeL]
  | n + 1, a, i + 1 => by
    have := rangeL_get c n (a + c) i
    have e : a + c + (i : Int) * c = a + ((i + 1 : Nat) : Int) * c := by
      rw [Int.natCast_add, Int.add_mul]
      simp
      omega
    show (rangeL (a + c) c n)[i]? = _
    rw [this, e]
    by_cases h : i < n
    · rw [if_pos h, if_pos (by omega)]
    · rw [if_neg h, if_neg (by omega)]
theorem rangeL_len (c : Int) : ∀ (n : Nat) (a : Int), (rangeL a c n).length = n
  | 0, _ => rfl
  | n + 1, a => by simp [rangeL, rangeL_len c n]
theorem it_range {lo : Int} {n : Nat} : ItRep w ca W H (Itr lo n) (rangeL lo 1 n) := fun i W1 μ1 H1 g1 f1 => by
  refine ⟨fun d hd => ?_, fun hi => by rw [rangeL_len] at hi; exact hi⟩
  rw [rangeL_get] at hd
  split at hd
  · rename_i hi
    cases hd
    refine ⟨hi, fun y H2 ⟨e2, h1⟩ => ?_⟩
    subst e2 h1
    exact ⟨W1, g1, Mp.Fr.refl _ _, by rw [Int.mul_one]; exact rfl⟩
  · cases hd
theorem it_rangeC {lo c : Int} {n : Nat} : ItRep w ca W H (Itc lo c n) (rangeL lo c n) := fun i W1 μ1 H1 g1 f1 => by
  refine ⟨fun d hd => ?_, fun hi => by rw [rangeL_len] at hi; exact hi⟩
  rw [rangeL_get] at hd
  split at hd
  · rename_i hi
    cases hd
    refine ⟨hi, fun y H2 ⟨e2, h1⟩ => ?_⟩
    subst e2 h1
    exact ⟨W1, g1, Mp.Fr.refl _ _, rfl⟩
  · cases hd
theorem enumL_get : ∀ (l : List D) (n : Int) (i : Nat), (enumL n l)[i]? = (l[i]?).map fun d => .tup [.int (n + i), d]
  | [], _, _ => by simp [enumL]
  | d :: l, n, 0 => by simp [enumL]
  | d :: l, n, i + 1 => by
    have := enumL_get l (n + 1) i
    show (enumL (n + 1) l)[i]? = _
    rw [this]
    have e : n + 1 + (i : Int) = n + ((i + 1 : Nat) : Int) := by omega
    rw [e]
    rfl
theorem enumL_len : ∀ (l : List D) (n : Int), (enumL n l).length = l.length
  | [], _ => rfl
  | d :: l, n => by simp [enumL, enumL_len l]
theorem it_enum {a : Addr} {l : List D} {vs : List V} (e : W.S a = some (.lst vs)) (r : Reps w ca W l vs) : ItRep w ca W H (Ite K a) (enumL 0 l) := fun i W1 μ1 H1 g1 f1 => by
  have hs : SqL K H1 a vs := SqL.of (g1.sub _ _ (f1.s _ _ e))
  refine ⟨fun d hd => ?_, fun hi => ⟨vs, hs, by rw [r.length]; rw [enumL_len] at hi; exact hi⟩⟩
  rw [enumL_get] at hd
  obtain ⟨d0, hd0, rfl⟩ := Option.map_eq_some_iff.mp hd
  obtain ⟨v, hv, rv⟩ := r.get hd0
  refine ⟨⟨vs, v, hs, hv⟩, fun x H2 ⟨T, y, ex, hT, e2, hx⟩ => ?_⟩
  subst ex e2
  have := hx vs hs
  rw [hv] at this
  cases this
  exact ⟨_, g1.add hT, Mp.Fr.add g1 hT, T, _, rfl, upd_same, _, _, rfl, by show V.int _ = V.int _; simp, _, _, rfl, Rep.mono (f1.trans (Wd.le_add (g1.free hT).1)) _ _ rv, rfl⟩
end
section
variable {ca : CA} {Wx : WX} {X : Cx} {tg e a b c : Expr} {n na nb nc : Den} {pos p : Pos}
theorem Si.val (hu : X.A.units + 16 < cLine) (h : Sd ca Wx X e n) : PI X tg e (TIt X.w ca Wx (Di.val n)) := by
  refine ⟨fun pins s σ H R I ⟨W, ρ, μ, g, r, hw⟩ => ?_⟩
  have hw : Wp X.w ca Wx (do
    let x ← n.v ρ
    M.some? (itemsOf x)) σ W μ H _ := hw
  refine thn (h.v.run pins s σ H (fun v H1 => ∃ W1 μ1 x ds, GS X.w ca W1 μ1 H1 ∧ Rep X.w ca W1 x v ∧ itemsOf x = some ds ∧ ∀ J, ItRep X.w ca W1 H1 J ds → R J H1) I ⟨W, ρ, μ, g, r, hw.bind.imp fun W1 μ1 H1 x g1 f1 h1 v rv => ?_⟩) fun u s1 ⟨v, H1, I1, ru, W1, μ1, x, ds, g1, rx, hd, q⟩ => ?_
  · obtain ⟨ds, hd, h2⟩ := h1.some
    exact ⟨W1, μ1, x, ds, g1, rv, hd, h2 W1 H1 g1 (Mp.Fr.refl W1 H1)⟩
  · cases x <;> first | (simp only [itemsOf] at hd; cases hd; done) | skip
    case lst l =>
      cases hd
      obtain ⟨ad, vs, rfl, ea, rl⟩ := rx
      cases ru
      obtain ⟨its, rv, pl, hz⟩ := I1.list (SqL.of (g1.sub _ _ ea))
      exact wpAny_pyIter_list pl.isList (pi_one (tk := s1.toks) I1 _ (turn_list ad _) ⟨_, Heap.get?_push_size _ rfl, rfl, rfl⟩ (q _ (it_list ea rl)))
    case tup l =>
      cases hd
      obtain ⟨ad, vs, rfl, ea, rl⟩ := rx
      cases ru
      obtain ⟨its, rv, pl, hz⟩ := I1.tuple (SqT.of (g1.sub _ _ ea))
      exact wpAny_pyIter_tuple (show s1.heap.IsTuple ad its.toArray from pl) (pi_one (tk := s1.toks) I1 _ (turn_tuple ad _) ⟨_, Heap.get?_push_size _ rfl, rfl, rfl⟩ (q _ (it_tup ea rl)))
    case str z =>
      simp only [itemsOf] at hd
      split at hd
      · cases hd
        cases rx
        obtain ⟨t, rfl⟩ := ru
        cases ha : z.cps.all (· < 128)
        · exact wpAny_pyIter_wide ha (pi_one (tk := s1.toks) I1 _ (turn_str _ z t "str_iterator" (.inr rfl)) ⟨_, Heap.get?_push_size _ rfl, rfl, rfl⟩ (q _ it_str))
        · exact wpAny_pyIter_ascii ha (pi_one (tk := s1.toks) I1 _ (turn_str _ z t "str_ascii_iterator" (.inl rfl)) ⟨_, Heap.get?_push_size _ rfl, rfl, rfl⟩ (q _ it_str))
      · cases hd
    case dct k l =>
      cases hd
      cases k with
      | false =>
        obtain ⟨ad, od, kvs, rfl, ea, rk⟩ := rx
        cases ru
        obtain ⟨hs, hgd, hx, es, ep, vs, hdt, hsz, kv, hm⟩ := I1.frzK (g1.sub _ _ ea)
        refine iter_keys hs hgd hx hdt (pi_one (tk := s1.toks) I1 _ (turn_keys _ hdt) ⟨_, Heap.get?_push_size _ rfl, rfl, ?_⟩ (q _ (it_keys ea rk)))
        rw [hsz] <;> rfl
      | true =>
        obtain ⟨ad, o, es, ep, rfl, ea, nd, rn⟩ := rx
        cases ru
        exact iter_keys nd.sm (raw_get I1.hok (g1.sub _ _ ea)) nd.ex nd.dat (pi_one (tk := s1.toks) I1 _ (turn_raw nd.dat) ⟨_, Heap.get?_push_size _ rfl, rfl, rfl⟩ (q _ (it_raw ea rn)))
theorem Si.range1 (h : Sd ca Wx X a na) (hg : Gl X "range") (hm : X.mg "range" = none) (hs : starEach [a] X.env = [(false, eval a X.env)] := by rfl) : PI X tg (.Call (.Name "range" p) [a] [] pos) (TIt X.w ca Wx (Di.range1 na)) := by
  refine PI.of (pi_range1 hg hm (pa_cons h.v pa_nil hs) hs) fun σ H R ⟨W, ρ, μ, g, r, hw⟩ => ?_
  refine ⟨W, ρ, μ, g, r, hw.bind.imp fun W1 μ1 H1 x g1 f1 h1 v rv => ?_⟩
  obtain ⟨ds, hd, h2⟩ := h1.some
  have h2 := h2 W1 H1 g1 (Mp.Fr.refl W1 H1)
  cases x <;> first | (simp only [Mp.range1] at hd; cases hd; done) | skip
  rename_i j
  simp only [Mp.range1] at hd
  split at hd
  · rename_i hj
    cases hd
    cases rv
    exact ⟨j, rfl, hj.1, hj.2, h2 _ it_range⟩
  · cases hd
theorem Si.range3 (ha : Sd ca Wx X a na) (hb : Sd ca Wx X b nb) (hc : Sd ca Wx X c nc) (hg : Gl X "range") (hm : X.mg "range" = none) (hs : starEach [a, b, c] X.env = (false, eval a X.env) :: starEach [b, c] X.env := by rfl)
    (hs2 : starEach [b, c] X.env = (false, eval b X.env) :: starEach [c] X.env := by rfl) (hs3 : starEach [c] X.env = (false, eval c X.env) :: starEach [] X.env := by rfl) (hpl : (backTo pos (starEach [b, c] X.env)).any (·.1) = false := by rfl) :
    PI X tg (.Call (.Name "range" p) [a, b, c] [] pos) (TIt X.w ca Wx (Di.range3 na nb nc)) := by
  refine PI.of (pi_range3 hg hm (pa_cons ha.v (pa_cons hb.v (pa_cons hc.v pa_nil hs3) hs2) hs) hs hpl) fun σ H R ⟨W, ρ, μ, g, r, hw⟩ => ?_
  refine ⟨W, ρ, μ, g, r, hw.bind.imp fun W1 μ1 H1 x g1 f1 h1 v rv => ⟨W1, ρ, μ1, g1, r.fr f1, h1.bind.imp fun W2 μ2 H2 y g2 f2 h2 u ru => ⟨W2, ρ, μ2, g2, r.fr (f1.trans f2), h2.bind.imp fun W3 μ3 H3 z g3 f3 h3 t rt => ?_⟩⟩⟩
  obtain ⟨ds, hd, h4⟩ := h3.some
  have h4 := h4 W3 H3 g3 (Mp.Fr.refl W3 H3)
  cases x <;> first | (simp only [Mp.range3] at hd; cases hd; done) | skip
  cases y <;> first | (simp only [Mp.range3] at hd; cases hd; done) | skip
  cases z <;> first | (simp only [Mp.range3] at hd; cases hd; done) | skip
  simp only [Mp.range3] at hd
  split at hd
  · rename_i hj
    cases hd
    cases rv; cases ru; cases rt
    obtain ⟨rfl, h5, h6, h7, h8⟩ := hj
    exact ⟨_, _, _, _, rfl, RgC.neg h5 h6 h7 h8, h4 _ it_rangeC⟩
  · cases hd
theorem Si.enum {elts : List Expr} {kk : Nat} {tpos : Pos} (h : Sd ca Wx X e n) (hg : Gl X "enumerate") (hm : X.mg "enumerate" = none) (hs : starEach [e] X.env = [(false, eval e X.env)] := by rfl) : PI X (.Tuple elts kk tpos) (.Call (.Name "enumerate" p) [e] [] pos) (TIt X.w ca Wx (Di.enum n)) := by
  refine PI.of (pi_enum hg hm (pa_cons h.v pa_nil hs) hs) fun σ H R ⟨W, ρ, μ, g, r, hw⟩ => ?_
  refine ⟨W, ρ, μ, g, r, hw.bind.imp fun W1 μ1 H1 x g1 f1 h1 v rv => ?_⟩
  cases x <;> first | exact (Wp.bad h1).elim | skip
  rename_i l
  obtain ⟨ad, vs, rfl, ea, rl⟩ := rv
  exact ⟨ad, vs, rfl, SqL.of (g1.sub _ _ ea), h1.ret g1 _ (it_enum ea rl)⟩
theorem Si.vals {apos cpos : Pos} (h : Sd ca Wx X e n) (hbase : attributeBase e "values" X.env (eval e X.env) = eval e X.env := by rfl) (hline : (apos.endLine == cpos.line) = true := by rfl) : PI X tg (.Call (.Attribute e "values" apos) [] [] cpos) (TIt X.w ca Wx (Di.vals n)) := by
  refine PI.of (pi_values h.v hbase hline) fun σ H R ⟨W, ρ, μ, g, r, hw⟩ => ?_
  refine ⟨W, ρ, μ, g, r, hw.bind.imp fun W1 μ1 H1 x g1 f1 h1 v rv => ?_⟩
  cases x <;> first | exact (Wp.bad h1).elim | skip
  rename_i k l
  cases k with
  | false =>
    obtain ⟨ad, od, kvs, rfl, ea, rk⟩ := rv
    exact ⟨ad, od, kvs, rfl, g1.sub _ _ ea, h1.ret g1 _ (it_vals ea rk)⟩
  | true => exact (Wp.bad h1).elim
end
end Mp

/-! Targets; list comprehensions (own work). -/
namespace Mp
open PySem PySem.Spec PyProof.Rows L2

/-! ### slots -/
section
variable {w : World} {ca : CA} {W : Wd} {H : Hp} {σ : L2.St} {ρ : Rho}
theorem SR.set {i : Nat} {d : D} {v : V} (r : SR w ca W H σ ρ) (h : Rep w ca W d v) : SR w ca W H (σ.set i (some v)) (ρ.set i (some (.dat d))) := by
  refine ⟨by rw [List.length_set, List.length_set, r.len], fun j o e => ?_, fun j k d1 d2 u e1 e2 e3 e4 => ?_⟩
  · by_cases z : i = j
    · subst z
      have hl := (List.getElem?_eq_some_iff.mp e).1
      rw [List.length_set] at hl
      rw [List.getElem?_set_self hl] at e
      cases e
      exact ⟨v, by rw [List.getElem?_set_self (by rw [r.len]; exact hl)], h⟩
    · rw [List.getElem?_set_ne z] at e ⊢
      exact r.at_ j o e
  · have n1 : i ≠ j := fun z => by
      subst z
      have hl := (List.getElem?_eq_some_iff.mp e1).1
      rw [List.length_set] at hl
      rw [List.getElem?_set_self hl] at e1
      cases e1
    have n2 : i ≠ k := fun z => by
      subst z
      have hl := (List.getElem?_eq_some_iff.mp e2).1
      rw [List.length_set] at hl
      rw [List.getElem?_set_self hl] at e2
      cases e2
    rw [List.getElem?_set_ne n1] at e1 e3
    rw [List.getElem?_set_ne n2] at e2 e4
    exact r.apart j k d1 d2 u e1 e2 e3 e4
theorem SR.drop {i : Nat} {v : Option V} (r : SR w ca W H σ ρ) : SR w ca W H (σ.set i v) (ρ.set i none) := by
  have ne : ∀ {j : Nat} {o : O}, (ρ.set i none)[j]? = some (some o) → i ≠ j := fun {j o} e z => by
    subst z
    have hl := (List.getElem?_eq_some_iff.mp e).1
    rw [List.length_set] at hl
    rw [List.getElem?_set_self hl] at e
    cases e
  refine ⟨by rw [List.length_set, List.length_set, r.len], fun j o e => ?_, fun j k d1 d2 u e1 e2 e3 e4 => ?_⟩
  · have z := ne e
    rw [List.getElem?_set_ne z] at e ⊢
    exact r.at_ j o e
  · have n1 := ne e1
    have n2 := ne e2
    rw [List.getElem?_set_ne n1] at e1 e3
    rw [List.getElem?_set_ne n2] at e2 e4
    exact r.apart j k d1 d2 u e1 e2 e3 e4
theorem SR.wipe (r : SR w ca W H σ ρ) : ∀ vs : List Nat, SR w ca W H (L2.wipe σ vs) (Mp.wipe ρ vs)
  | [] => r
  | v :: vs => (SR.wipe r vs).drop
/-- values into slots -/
def setV : L2.St → List Nat → List V → L2.St
  | σ, i :: is, x :: xs => setV (σ.set i (some x)) is xs
  | σ, _, _ => σ
theorem SR.setAll : ∀ {is : List Nat} {l : List D} {xs : List V} {σ : L2.St} {ρ ρ' : Rho}, SR w ca W H σ ρ → Reps w ca W l xs → setAll ρ is l = some ρ' → SR w ca W H (setV σ is xs) ρ' ∧ xs.length = is.length
  | [], [], xs, σ, ρ, ρ', r, q, e => by
    have q : xs = [] := q
    subst q
    cases e
    exact ⟨r, rfl⟩
  | [], _ :: _, _, _, _, _, _, _, e => by cases e
  | _ :: _, [], _, _, _, _, _, _, e => by cases e
  | i :: is, d :: l, _, σ, ρ, ρ', r, q, e => by
    obtain ⟨v, xs, rfl, a, b⟩ := q
    obtain ⟨h1, h2⟩ := SR.setAll (r.set (i := i) a) b e
    exact ⟨h1, by simp [h2]⟩
end
theorem wipe_get (σ : L2.St) (j : Nat) : ∀ vs : List Nat, (L2.wipe σ vs)[j]? = if j ∈ vs ∧ j < σ.length then some none else σ[j]?
  | [] => by simp [L2.wipe]
  | v :: vs => by
    unfold L2.wipe
    by_cases z : v = j
    · subst z
      by_cases hl : v < σ.length
      · rw [List.getElem?_set_self (by rw [L2.wipe_length]; exact hl), if_pos ⟨List.mem_cons_self, hl⟩]
      · rw [if_neg (fun h => hl h.2), List.getElem?_eq_none (by rw [List.length_set, L2.wipe_length]; omega), List.getElem?_eq_none (by omega)]
    · rw [List.getElem?_set_ne z, wipe_get σ j vs]
      have e : (j ∈ v :: vs) ↔ j ∈ vs := by simp [Ne.symm z]
      simp only [e]
theorem wipe_set {σ : L2.St} {i : Nat} {o : Option V} {vs : List Nat} (h : i ∈ vs) : L2.wipe (σ.set i o) vs = L2.wipe σ vs := by
  apply List.ext_getElem?
  intro j
  rw [wipe_get, wipe_get, List.length_set]
  by_cases z : j ∈ vs ∧ j < σ.length
  · rw [if_pos z, if_pos z]
  · rw [if_neg z, if_neg z]
    by_cases y : i = j
    · subst y
      have hl : ¬ i < σ.length := fun hl => z ⟨h, hl⟩
      rw [List.getElem?_eq_none (by rw [List.length_set]; omega), List.getElem?_eq_none (by omega)]
    · rw [List.getElem?_set_ne y]
theorem wipe_wipe {σ : L2.St} {vs : List Nat} : L2.wipe (L2.wipe σ vs) vs = L2.wipe σ vs := by
  apply List.ext_getElem?
  intro j
  rw [wipe_get, wipe_get, L2.wipe_length]
  by_cases z : j ∈ vs ∧ j < σ.length
  · rw [if_pos z, if_pos z]
  · rw [if_neg z, if_neg z]
theorem wipe_setV {vs : List Nat} : ∀ {is : List Nat} {xs : List V} {σ : L2.St}, (∀ i ∈ is, i ∈ vs) → L2.wipe (setV σ is xs) vs = L2.wipe σ vs
  | [], _, _, _ => by cases ‹List V› <;> rfl
  | _ :: _, [], _, _ => rfl
  | i :: is, x :: xs, σ, h => by
    show L2.wipe (setV (σ.set i (some x)) is xs) vs = _
    rw [wipe_setV (fun j hj => h j (List.mem_cons_of_mem _ hj)), wipe_set (h i List.mem_cons_self)]

/-! ### targets -/
def gsOf : List Nat → TGs
  | [] => gNil
  | i :: is => gCons (gName i) (gsOf is)
def gOf (K : PySem.W.Frag) : Tg → TG
  | .name i => gName i
  | .names is => gTup K is.length (gsOf is)
def tgSlots : Tg → List Nat
  | .name i => [i]
  | .names is => is
def setT : Tg → L2.St → V → List V → L2.St
  | .name i, σ, x, _ => σ.set i (some x)
  | .names is, σ, _, xs => setV σ is xs
theorem gsOf_read {is : List Nat} : ∀ {xs : List V} {σ : L2.St} {H : Hp} {Q : L2.St → Hp → Prop}, xs.length = is.length → Q (setV σ is xs) H → gsOf is xs σ H Q := by
  induction is with
  | nil => intro xs σ H Q h q; cases xs with
    | nil => exact ⟨rfl, q⟩
    | cons => simp at h
  | cons i is ih => intro xs σ H Q h q; cases xs with
    | nil => simp at h
    | cons x xs => exact ⟨x, xs, rfl, ih (by simpa using h) q⟩
theorem g_read2 {w : World} {ca : CA} {W : Wd} {μ : Mu} {H : Hp} {σ : L2.St} {ρ ρ' : Rho} {K : PySem.W.Frag} {t : Tg} {d : D} {x : V} {Q : L2.St → Hp → Prop} (g : GS w ca W μ H) (r : SR w ca W H σ ρ) (rx : Rep w ca W d x) (e : assign ρ t d = some ρ')
    (h : ∀ σ', (∀ V G, W.le V → SR w ca V G σ ρ → SR w ca V G σ' ρ') → (∀ vs, (∀ i ∈ tgSlots t, i ∈ vs) → L2.wipe σ' vs = L2.wipe σ vs) → Q σ' H) : gOf K t x σ H Q := by
  cases t with
  | name i =>
    cases e
    exact h _ (fun V G le q => q.set (Rep.mono le _ _ rx)) fun vs hv => wipe_set (hv i List.mem_cons_self)
  | names is =>
    cases d <;> first | (cases e; done) | skip
    rename_i l
    obtain ⟨a, xs, rfl, ea, rl⟩ := rx
    obtain ⟨h1, h2⟩ := r.setAll rl e
    exact ⟨a, xs, rfl, SqT.of (g.sub _ _ ea), h2, gsOf_read h2 (h _ (fun V G le q => (q.setAll (Reps.mono le _ _ rl) e).1) fun vs hv => wipe_setV hv)⟩
theorem g_read {w : World} {ca : CA} {W : Wd} {μ : Mu} {H : Hp} {σ : L2.St} {ρ ρ' : Rho} {K : PySem.W.Frag} {t : Tg} {d : D} {x : V} {Q : L2.St → Hp → Prop} (g : GS w ca W μ H) (r : SR w ca W H σ ρ) (rx : Rep w ca W d x) (e : assign ρ t d = some ρ')
    (h : ∀ σ', SR w ca W H σ' ρ' → (∀ vs, (∀ i ∈ tgSlots t, i ∈ vs) → L2.wipe σ' vs = L2.wipe σ vs) → Q σ' H) : gOf K t x σ H Q := g_read2 g r rx e fun σ' q => h σ' (q W H (Wd.le.refl W) r)

/-! ### one clause -/
def WxF : WX := fun _ _ _ _ => False
inductive SdIf (ca : CA) (Wx : WX) (X : Cx) : List Expr → Dens → Prop
  | nil : SdIf ca Wx X [] []
  | one {c : Expr} {n : Den} (h : Sd ca Wx X c n) : SdIf ca Wx X [c] [(false, n)]
section
variable {ca : CA} {Wx : WX} {X : Cx} {tg e a b c iter elt : Expr} {n na nb nc : Den} {pos p : Pos}
theorem SdIf.pts {ifs : List Expr} {ns : Dens} (h : SdIf ca Wx X ifs ns) : PTs X ifs (TB X.w ca Wx fun ρ => evIfs ρ ns) := by
  cases h with
  | nil => exact ⟨fun pins s σ H Q I ⟨W, ρ, μ, g, r, hw⟩ => pts_nil.run pins s σ H Q I (hw.ret g _ rfl)⟩
  | one h => exact pts_one h.t
theorem keepD {W W' : Wd} {H H' : Hp} {p : Addr} {o : HO} (f : Fr W H W' H') (e : H p = some o) (n : ∀ ps, o ≠ .tbl ps) (s : W.S p = none) (m : p ∉ W.ι) : H' p = some o ∧ W'.S p = none ∧ p ∉ W'.ι := by
  obtain ⟨a, b, c⟩ := f.other p o e s m
  rcases c with c | ⟨ps, more, z, _⟩
  · exact ⟨c, a, b⟩
  · exact (n ps z).elim
theorem Fr.del0 {W W' : Wd} {H H' : Hp} {p : Addr} (f : Fr W H W' H') (hp : H p = none) : Fr W H W' (Mp.del H' p) :=
  ⟨f.le, fun a u e s n => by
    have z : a ≠ p := fun z => by subst z; rw [hp] at e; cases e
    rw [del_ne z]
    exact f.other a u e s n⟩
theorem compM_ok {α : Type} {F : D → M (Option α)} {ds : List D} {l : List α} {μ μ' : Mu} {d : D} (h : compM F (d :: ds) μ = .ok l μ') : ∃ o μ1 l', F d μ = .ok o μ1 ∧ compM F ds μ1 = .ok l' μ' ∧ l = consO o l' := by
  have h : (F d >>= fun o => compM F ds >>= fun l => M.ret (consO o l)) μ = .ok l μ' := h
  obtain ⟨o, μ1, e1, h2⟩ := bind_ok h
  have h2 : (compM F ds >>= fun l => M.ret (consO o l)) μ1 = .ok l μ' := h2
  obtain ⟨l', μ2, e2, h3⟩ := bind_ok h2
  cases h3
  exact ⟨o, μ1, l', e1, e2, rfl⟩
theorem noExc_ok {α : Type} {m : M α} {a : α} {μ μ' : Mu} (h : noExc m μ = .ok a μ') : m μ = .ok a μ' := by
  unfold noExc at h
  cases e : m μ with
  | ok b μ1 => rw [e] at h; exact h
  | exc => rw [e] at h; cases h
  | bad => rw [e] at h; cases h
/-- a turn: the target takes the item, the tests, the element -/
theorem turn_ok {α : Type} {vs : List Nat} {t : Tg} {ifs : Dens} {z : α} {k : Rho → M α} {ρ : Rho} {d : D} {o : α} {μ μ' : Mu} (h : turn vs t ifs z k ρ d μ = .ok o μ') :
    ∃ ρ' c μ1, assign (Mp.wipe ρ vs) t d = some ρ' ∧ evIfs ρ' ifs μ = .ok c μ1 ∧ (if c = true then k ρ' else M.ret z) μ1 = .ok o μ' := by
  have h : (M.some? (assign (Mp.wipe ρ vs) t d) >>= fun ρ' => evIfs ρ' ifs >>= fun c => if c then k ρ' else M.ret z) μ = .ok o μ' := h
  obtain ⟨ρ', μ1, e1, h2⟩ := bind_ok h
  have h2 : (evIfs ρ' ifs >>= fun c => if c then k ρ' else M.ret z) μ1 = .ok o μ' := h2
  obtain ⟨c, μ2, e2, h3⟩ := bind_ok h2
  cases e : assign (Mp.wipe ρ vs) t d with
  | none => rw [e] at e1; cases e1
  | some r =>
    rw [e] at e1
    cases e1
    exact ⟨_, c, μ2, rfl, e2, h3⟩
theorem noExc_ne {α : Type} {m : M α} {x : Xn} {μ μ' : Mu} : noExc m μ ≠ .exc x μ' := fun e => by
  unfold noExc at e
  cases e2 : m μ <;> rw [e2] at e <;> cases e
theorem compM_ne {α : Type} {f : D → M (Option α)} {x : Xn} : ∀ {ds : List D} {μ μ' : Mu}, compM (fun d => noExc (f d)) ds μ ≠ .exc x μ'
  | [], _, _, e => by cases e
  | d :: ds, μ, μ', e => by
    have e : (noExc (f d) μ).bind (fun o => compM (fun d => noExc (f d)) ds >>= fun l => M.ret (consO o l)) = .exc x μ' := e
    cases e1 : noExc (f d) μ with
    | bad => rw [e1] at e; cases e
    | exc y μ1 => exact noExc_ne e1
    | ok o μ1 =>
      rw [e1] at e
      have e : (compM (fun d => noExc (f d)) ds μ1).bind (fun l => M.ret (consO o l)) = .exc x μ' := e
      cases e3 : compM (fun d => noExc (f d)) ds μ1 with
      | ok => rw [e3] at e; cases e
      | bad => rw [e3] at e; cases e
      | exc y μ2 => exact compM_ne e3
theorem compM_noExc {α : Type} {f : D → M (Option α)} {w : World} {β : Type} {k : List α → M β} {σ : L2.St} {W : Wd} {H : Hp} {P : Wd → Mu → Hp → β → Prop} {ds : List D} {μ : Mu} (h : Wp w ca Wx (compM (fun d => noExc (f d)) ds >>= k) σ W μ H P) :
    ∃ l μ', compM (fun d => noExc (f d)) ds μ = .ok l μ' ∧ ∀ W' H', GS w ca W' μ' H' → Fr W H W' H' → Wp w ca Wx (k l) σ W' μ' H' P := by
  have h := h.bind
  unfold Wp at h
  cases e : compM (fun d => noExc (f d)) ds μ with
  | ok l μ' => rw [e] at h; exact ⟨l, μ', rfl, h⟩
  | bad => rw [e] at h; exact h.elim
  | exc x μ' => exact (compM_ne e).elim
/-- a value's reading from what it gives -/
theorem tv_of {m : Rho → M D} {d : D} {σ : L2.St} {W : Wd} {μ μ' : Mu} {H : Hp} {ρ : Rho} {K : VK} (g : GS X.w ca W μ H) (r : SR X.w ca W H σ ρ) (e : m ρ μ = .ok d μ') (h : ∀ W' H' v, GS X.w ca W' μ' H' → Fr W H W' H' → Rep X.w ca W' d v → K v H') : TV X.w ca Wx m σ H K :=
  ⟨W, ρ, μ, g, r, .of_ok e fun W' H' g' f' v rv => h W' H' v g' f' rv⟩
theorem tb_of {m : Rho → M Bool} {b : Bool} {σ : L2.St} {W : Wd} {μ μ' : Mu} {H : Hp} {ρ : Rho} {K : Bool → Hp → Prop} (g : GS X.w ca W μ H) (r : SR X.w ca W H σ ρ) (e : m ρ μ = .ok b μ') (h : ∀ W' H', GS X.w ca W' μ' H' → Fr W H W' H' → K b H') : TB X.w ca Wx m σ H K :=
  ⟨W, ρ, μ, g, r, .of_ok e fun W' H' g' f' b' eb => by subst eb; exact h W' H' g' f'⟩
abbrev lcF (vs : List Nat) (t : Tg) (ifs : Dens) (n : Den) (ρ : Rho) : D → M (Option D) := fun d => noExc (turn vs t ifs none (fun ρ' => do
      let y ← n.v ρ'
      M.ret (some y)) ρ d)
theorem GS.other {w : World} {W : Wd} {μ : Mu} {H : Hp} (g : GS w ca W μ H) {p : Addr} {o : HO} (hs : W.S p = none) (hi : p ∉ W.ι) (nt : ∀ ps, H p ≠ some (.tbl ps)) : GS w ca W μ (upd H p o) :=
  ⟨fun a u e => by rw [upd_ne (fun z => by subst z; rw [hs] at e; cases e)]; exact g.sub a u e, g.len, g.nd, fun n d a e1 e2 => by
    obtain ⟨s, q⟩ := g.lv n d a e1 e2
    have z : a ≠ p := fun z => by subst z; exact hi (List.mem_of_getElem? e2)
    exact ⟨s, At.mono (Wd.le.refl W) (fun u e => by rw [upd_ne z]; exact e) d q⟩, fun a m => by
    obtain ⟨u, e⟩ := g.inh a m
    exact ⟨u, by rw [upd_ne (fun z => by subst z; exact hi m)]; exact e⟩, g.tb.step (fun _ _ e => e) fun a ps e s m => ⟨by rw [upd_ne (fun z => by subst z; exact nt ps e)]; exact e, s, m⟩⟩
theorem Fr.upd0 {W W' : Wd} {H H' : Hp} {p : Addr} {o : HO} (f : Fr W H W' H') (hp : H p = none) : Fr W H W' (upd H' p o) :=
  ⟨f.le, fun a u e s n => by
    have z : a ≠ p := fun z => by subst z; rw [hp] at e; cases e
    rw [upd_ne z]
    exact f.other a u e s n⟩
theorem lc_read {own : List (Str × Nat)} {t : Tg} {nis : Dens} {it : Rho → M (List D)} (ht : ∀ i ∈ tgSlots t, i ∈ own.map (·.2)) {σ : L2.St} {H : Hp} {K : VK} (h : TNew X.w ca Wx (Dn.lc (own.map (·.2)) t it nis n).v σ H K) :
    tLc (TIt X.w ca Wx it) (gOf X.K t) (TB X.w ca WxF fun ρ => evIfs ρ nis) (TV X.w ca WxF n.v) (own.map (·.2)) σ H K := by
  obtain ⟨W, ρ, μ, g, r, hw⟩ := h
  refine ⟨W, ρ, μ, g, r, hw.bind.imp fun W1 μ1 H1 ds g1 f1 h1 J hJ D hD => ?_⟩
  obtain ⟨hz, h1⟩ := sized_ok h1
  obtain ⟨l, μ2, el, h2⟩ := compM_noExc h1
  have r1 := r.fr f1
  refine ⟨fun i m H' => m = ds.length - i ∧ i ≤ ds.length ∧ ∃ W' μ' acc av rest, GS X.w ca W' μ' H' ∧ Fr W1 H1 W' H' ∧ W'.S D = none ∧ D ∉ W'.ι ∧ H' D = some (.lst av) ∧ Reps X.w ca W' acc av ∧ acc.length ≤ i ∧ compM (lcF (own.map (·.2)) t nis n ρ) (ds.drop i) μ' = .ok rest μ2 ∧ acc ++ rest = l,
    ⟨ds.length, rfl, Nat.zero_le _, W1, μ1, [], [], l, g1.beside hD, Mp.Fr.beside hD, (g1.free hD).1, (g1.free hD).2, upd_same, rfl, Nat.le_refl _, el, rfl⟩, ?_⟩
  rintro i m H' ⟨rfl, hi, W', μ', acc, av, rest, g', f', sD, iD, eD, ra, ha, er, eq⟩
  by_cases hlt : i < ds.length
  · refine .inr ⟨((hJ i W' μ' H' g' f'.le).1 _ (List.getElem?_eq_getElem hlt)).1, fun H'' => ∃ W2 μ3 acc2 av2 rest2, GS X.w ca W2 μ3 H'' ∧ Fr W1 H1 W2 H'' ∧ W2.S D = none ∧ D ∉ W2.ι ∧ H'' D = some (.lst av2) ∧ Reps X.w ca W2 acc2 av2 ∧ acc2.length ≤ i + 1 ∧ compM (lcF (own.map (·.2)) t nis n ρ) (ds.drop (i + 1)) μ3 = .ok rest2 μ2 ∧ acc2 ++ rest2 = l,
      fun H'' h => ⟨ds.length - (i + 1), by omega, rfl, by omega, h⟩, fun x H'' hy => ?_⟩
    obtain ⟨W2, g2, f2, rx⟩ := ((hJ i W' μ' H' g' f'.le).1 _ (List.getElem?_eq_getElem hlt)).2 x H'' hy
    have eD2 := keepD f2 eD (fun _ => HO.noConfusion) sD iD
    have hdr : ds.drop i = ds[i] :: ds.drop (i + 1) := List.drop_eq_getElem_cons hlt
    rw [hdr] at er
    obtain ⟨o, μ3, rest', e1, e2, e3⟩ := compM_ok er
    obtain ⟨ρ', c, μ4, ea, ec, eo⟩ := turn_ok (noExc_ok e1)
    have sr2 := (r1.fr (f'.trans f2)).wipe (own.map (·.2))
    refine g_read g2 sr2 rx ea fun σ' sr' hw' => ⟨by rw [hw' _ ht, wipe_wipe], ?_⟩
    refine tb_of (X := X) (Wx := WxF) g2 sr' ec fun W3 H3 g3 f3 => ?_
    have eD3 := keepD f3 eD2.1 (fun _ => HO.noConfusion) eD2.2.1 eD2.2.2
    cases c with
    | false =>
      rw [if_neg Bool.false_ne_true] at eo ⊢
      cases eo
      subst e3
      exact ⟨W3, _, acc, av, _, g3, (f'.trans f2).trans f3, eD3.2.1, eD3.2.2, eD3.1, Reps.mono (f2.trans f3).le _ _ ra, by omega, e2, eq⟩
    | true =>
      rw [if_pos rfl] at eo ⊢
      obtain ⟨y, μ5, e4, e5⟩ := bind_ok eo
      cases e5
      subst e3
      refine tv_of (X := X) (Wx := WxF) g3 (sr'.fr f3) e4 fun W4 H4 v g4 f4 rv => ?_
      have eD4 := keepD f4 eD3.1 (fun _ => HO.noConfusion) eD3.2.1 eD3.2.2
      have ra4 := Reps.mono ((f2.trans f3).trans f4).le _ _ ra
      have hl : av.length = acc.length := ra4.length
      refine ⟨av, eD4.1, by rw [← line_eq] at *; omega, W4, _, acc ++ [y], av ++ [v], rest', ?_, ?_, eD4.2.1, eD4.2.2, upd_same, ra4.append ⟨v, [], rfl, rv, rfl⟩, by rw [List.length_append]; simp; omega, e2, by rw [List.append_assoc]; exact eq⟩
      · exact g4.other eD4.2.1 eD4.2.2 fun ps e => by rw [eD4.1] at e; cases e
      · exact (((f'.trans f2).trans f3).trans f4).upd0 hD
  · have e : i = ds.length := by omega
    subst e
    refine .inl ⟨(hJ _ W' μ' H' g' f'.le).2 (Nat.le_refl _), ?_⟩
    rw [List.drop_length] at er
    cases er
    rw [List.append_nil] at eq
    subst eq
    have g3 := g'.del sD iD fun ps e => by rw [eD] at e; cases e
    have h3 := h2 W' (Mp.del H' D) g3 (f'.del0 hD)
    have h3 := h3.ret g3 D (.lst av) del_same ⟨av, by rw [upd_del, upd_same], ra⟩
    rw [upd_del, upd_id eD] at h3
    exact h3
theorem new_lc {scope : Scope} {own : List (Str × Nat)} {t : Tg} {ifs : List Expr} {nis : Dens} {it : Rho → M (List D)} (y : Cy X Wx) (hi : PI X tg iter (TIt X.w ca Wx it)) (ok : BlkOk X.N X.env.scope scope own) (ht : ∀ i ∈ tgSlots t, i ∈ own.map (·.2))
    (hg : ∀ (s : Shared) (H : Hp) (C : Addr) (cl : List (Str × Addr)) (fp : List Addr), PG (X.blk s H scope (compEnvC scope cl C X.env) fp) tg (gOf X.K t))
    (hifs : ∀ (s : Shared) (H : Hp) (C : Addr) (cl : List (Str × Addr)) (fp : List Addr), SdIf ca WxF (X.blk s H scope (compEnvC scope cl C X.env) fp) ifs nis)
    (he : ∀ (s : Shared) (H : Hp) (C : Addr) (cl : List (Str × Addr)) (fp : List Addr), Sd ca WxF (X.blk s H scope (compEnvC scope cl C X.env) fp) elt n) (hs : ∀ x, foldedSetIterable iter X.env x = pure x := by intro _; rfl) :
    PE X (.ListComp elt [⟨tg, iter, ifs, 0⟩] scope pos) (TNew X.w ca Wx (Dn.lc (own.map (·.2)) t it nis n).v) :=
  PE.of (pe_lc (tt := TB X.w ca WxF fun ρ => evIfs ρ nis) (te := TV X.w ca WxF n.v) y.calm y.nd hi ok hg (fun s H C cl fp => (hifs s H C cl fp).pts) (fun s H C cl fp => (he s H C cl fp).v) hs) fun σ H K h => lc_read ht h
theorem Sd.lc {scope : Scope} {own : List (Str × Nat)} {t : Tg} {ifs : List Expr} {nis : Dens} {it : Rho → M (List D)} (y : Cy X Wx) (hi : PI X tg iter (TIt X.w ca Wx it)) (ok : BlkOk X.N X.env.scope scope own) (ht : ∀ i ∈ tgSlots t, i ∈ own.map (·.2))
    (hg : ∀ (s : Shared) (H : Hp) (C : Addr) (cl : List (Str × Addr)) (fp : List Addr), PG (X.blk s H scope (compEnvC scope cl C X.env) fp) tg (gOf X.K t))
    (hifs : ∀ (s : Shared) (H : Hp) (C : Addr) (cl : List (Str × Addr)) (fp : List Addr), SdIf ca WxF (X.blk s H scope (compEnvC scope cl C X.env) fp) ifs nis)
    (he : ∀ (s : Shared) (H : Hp) (C : Addr) (cl : List (Str × Addr)) (fp : List Addr), Sd ca WxF (X.blk s H scope (compEnvC scope cl C X.env) fp) elt n) (hs : ∀ x, foldedSetIterable iter X.env x = pure x := by intro _; rfl) :
    Sd ca Wx X (.ListComp elt [⟨tg, iter, ifs, 0⟩] scope pos) (Dn.lc (own.map (·.2)) t it nis n) := .ofV (pe_new (new_lc y hi ok ht hg hifs he hs)) rfl
end
end Mp

/-! Dict comprehensions, their keys of any sort (own work; the walk follows the hand layer's for keys that are atoms). -/
namespace Mp
open PySem PySem.Spec PyProof.Rows L2

/-- a store at D does what is wanted of it, wherever it is done -/
def PutAt (X : Cx) (D : Addr) (y z : V) (H : Hp) (N : Hp → Prop) : Prop := ∀ (Y : Cx), Y.prog = X.prog → Y.w = X.w → Y.A = X.A → ∀ (pins : List (Addr × Obj)) (s : Shared) (σ : L2.St) (E : Value → Shared → Prop) (u r : Value) (Q : Unit → Shared → Prop), Inv Y pins σ H s → RelV y u → RelV z r →
  (∀ o s', Inv Y pins σ (upd H D o) s' → N (upd H D o) → Q () s') → wpAny (model Y.prog Y.w) Y.A (dictSet D u r) Q E s
/-- one turn's wish -/
def tTurn (X : Cx) (g : TG) (tt : TT) (tk tv : TE) (vs : List Nat) (σ : L2.St) (D : Addr) (x : V) (H : Hp) (N : Hp → Prop) : Prop := g x (L2.wipe σ vs) H fun σ2 H2 => L2.wipe σ2 vs = L2.wipe σ vs ∧ tt σ2 H2 fun b H3 =>
  if b = true then tk σ2 H3 fun y H4 => tv σ2 H4 fun z H5 => PutAt X D y z H5 N else N H3
/-- {k: v for ..}: D the new dict -/
def tDca (X : Cx) (ca : CA) (kk : Bool) (wi : TI) (g : TG) (tt : TT) (tk tv : TE) (vs : List Nat) : TE := fun σ H Q => wi σ H fun J H1 => ∀ D o, H1 D = none → (∀ W, At X.w ca W (upd H1 D o) D (.dct kk [])) →
  ∃ S : Nat → Nat → Hp → Prop, (∃ m, S 0 m (upd H1 D o)) ∧ ∀ i m H, S i m H → (J.stop i H ∧ Q (.ref D) H) ∨ (J.go i H ∧ ∃ N : Hp → Prop, (∀ H', N H' → ∃ m', m' < m ∧ S (i + 1) m' H') ∧ ∀ x H', J.yld i H x H' → tTurn X g tt tk tv vs σ D x H' N)
section
variable {ca : CA} {Wx : WX} {X : Cx} {kk : Bool} {kx vx tg iter : Expr} {ifs : List Expr} {scope : Scope} {own : List (Str × Nat)} {pos : Pos} {wi : TI} {g : TG} {tt : TT} {tk tv : TE}
theorem pe_dca (hc : X.calm = true) (hN : X.N.Nodup) (hi : PI X tg iter wi) (ok : BlkOk X.N X.env.scope scope own)
    (hg : ∀ s H C cl fp, PG (X.blk s H scope (compEnvC scope cl C X.env) fp) tg g) (ht : ∀ s H C cl fp, PTs (X.blk s H scope (compEnvC scope cl C X.env) fp) ifs tt)
    (hk : ∀ s H C cl fp, PE (X.blk s H scope (compEnvC scope cl C X.env) fp) kx tk) (hv : ∀ s H C cl fp, PE (X.blk s H scope (compEnvC scope cl C X.env) fp) vx tv) (hs : ∀ x, foldedSetIterable iter X.env x = pure x) :
    PE X (.DictComp kx vx [⟨tg, iter, ifs, 0⟩] scope pos) (tDca X ca kk wi g tt tk tv (own.map (·.2))) := by
  refine ⟨fun pins s σ H Q I hw => ?_⟩
  rw [arm_eval_DictComp]
  have cells : ∀ y ∈ scope.names, y.2 = .free → ∃ c, X.env.cells.lookup y.1 = some c := fun y hy e => (ok.free y hy e).elim (fun z => I.ok.has _ (.inl z)) fun z => I.ok.has _ (.inr z)
  refine wpAny_comprehension_free rfl hs (closure_ok cells) ok.kind (fun y hy e => by rw [ok.uniq y hy, e]) (thn (hi.run pins s σ H _ I hw) fun xv s1 h1 => thn h1 fun itv s2 ⟨it, fp, tn, J, H2, ei, I2, T, st2, f2, q⟩ => ?_)
  subst ei
  refine wpAny_newObj_type (newEnv_comp ?_)
  -- the new dict, and the block's own frame
  obtain ⟨o, I3, ha⟩ := dct_empty (ca := ca) kk I2
  have dNew : H2 s2.heap.objs.size = none := I2.hok.fresh (Nat.le_refl _)
  obtain ⟨S, ⟨m0, first⟩, turns⟩ := q _ o dNew ha
  generalize eD : s2.heap.objs.size = D at *
  generalize e3 : ({ s2 with heap := s2.heap.push { cls := .type "dict", data := .dict #[] } } : Shared) = s3 at *
  have h3 : s3.heap = s2.heap.push { cls := .type "dict", data := .dict #[] } := by rw [← e3]
  have old : ∀ b ∈ fp, b < D := fun b hb => by
    obtain ⟨ob, e, _⟩ := T.obj _ _ st2 b hb
    rw [← eD]; exact Heap.lt_size e
  have sz3 : s3.heap.objs.size = D + 1 := by rw [h3, Heap.size_push, eD]
  generalize eH : upd H2 D o = H3 at *
  have fp3 : ∀ b ∈ fp, FpOk X pins H3 b ∧ b < s3.heap.objs.size := fun b hb => by
    have lt := old b hb
    refine ⟨⟨?_, (f2 b hb).2⟩, by rw [sz3]; exact Nat.lt_succ_of_lt lt⟩
    rw [← eH, upd_ne (Nat.ne_of_lt lt)]
    exact (f2 b hb).1
  have I4 := block_start I3 ok hN fp3
  have step3 : ∀ b ob, s2.heap.get? b = some ob → s3.heap.get? b = some ob := fun b ob e => by rw [h3]; exact Heap.get?_push_of_some _ e
  show codeAny _ _ (.compStart (.DictComp kx vx [⟨tg, iter, ifs, 0⟩] scope pos) 0 (.ref it) (.ref D) (compEnvC scope (cellsFrom (s3.heap.objs.size + 1) scope.names (cloFrom X.env.cells scope.names [])) s3.heap.objs.size X.env)) _ { s3 with heap := pushCells (s3.heap.push { cls := .type "dict", data := .dict #[] }) scope.names }
  generalize eC : cellsFrom (s3.heap.objs.size + 1) scope.names (cloFrom X.env.cells scope.names []) = cl at *
  have pg := hg s3 H3 s3.heap.objs.size cl fp
  have pt := ht s3 H3 s3.heap.objs.size cl fp
  have pk := hk s3 H3 s3.heap.objs.size cl fp
  have pv := hv s3 H3 s3.heap.objs.size cl fp
  generalize eE : compEnvC scope cl s3.heap.objs.size X.env = env at *
  have eL : env.locals = s3.heap.objs.size := by rw [← eE]; rfl
  generalize e4 : ({ s3 with heap := pushCells (s3.heap.push { cls := .type "dict", data := .dict #[] }) scope.names } : Shared) = s4 at *
  have st4 : tn 0 s4.heap := T.keep _ _ _ (T.keep _ _ _ st2 fun b _ ob e => step3 b ob e) fun b _ ob e => by rw [← e4]; exact pushCells_keeps _ _ _ _ (Heap.get?_push_of_some _ e)
  have quiet : ∀ {ρ : L2.St} {G : Hp} {t : Shared}, Inv (X.blk s3 H3 scope env fp) [] ρ G t → (∀ b ∈ fp, G b = none) → ∀ b ∈ fp, FpOk (X.blk s3 H3 scope env fp) [] G b := fun {ρ G t} J n b hb =>
    ⟨n b hb, (J.ok.exf b hb).1, J.ok.exfs b hb, .inl hb, fun x c e => (J.ok.exf b hb).2 x c e, fun p hp => by simp at hp⟩
  let Loop : Nat → Shared → Prop := fun n t => ∃ i G, Inv (X.blk s3 H3 scope env fp) [] (L2.wipe σ (own.map (·.2))) G t ∧ tn i t.heap ∧ (∀ b ∈ fp, G b = none) ∧ S i n G
  have loop : codeAny (model X.prog X.w) X.A (.compLoop (.DictComp kx vx [⟨tg, iter, ifs, 0⟩] scope pos) 0 (.ref it) (.ref D) env) (compPost (model X.prog X.w) X.A X.xe none (fun v s' => EP X pins σ Q v s') (.ref D) s3.heap.objs.size) s4 := by
    refine compLoop_anyD Loop ?_ m0 ⟨0, H3, I4, st4, fun b hb => (fp3 b hb).1.1, first⟩
    rintro n t ⟨i, G, J4, stt, nt, hS⟩
    rcases turns i n G hS with ⟨stop, fin⟩ | ⟨go, N, hN', each⟩
    · refine thnF (T.done (X.blk s3 H3 scope env fp) rfl rfl rfl hc i [] t _ G (fun _ _ => False) J4 (quiet J4 nt) stt stop) fun r t' ⟨er, J5⟩ => ?_
      subst er
      have back : Inv X pins σ G t' := I3.call' (ch := fp) J5.os J5.base J5.hok J5.bare fun b hb => ⟨(fp3 b hb).1.2.2.2.1, (fp3 b hb).1.2.1, (fp3 b hb).1.2.2.2.2.1, (fp3 b hb).1.2.2.2.2.2⟩
      have nC : G s3.heap.objs.size = none := by
        have z : G env.locals = none := J5.free
        rw [eL] at z; exact z
      obtain ⟨ns, hns, _⟩ := J5.loc
      have hns : t'.heap.Ns env.locals ns := hns
      rw [eL] at hns
      obtain ⟨k0, k1, k2, k3, k4, k5⟩ := I3.fpOk (Nat.le_refl _) nC
      exact ⟨ns, hns, fun h'' sb => ⟨.ref D, G, back.turned (t' := t'.toks) (fun b ob hb e => (sb.2 b hb).trans e) k0 k1 k3 k4 k5, rfl, fin⟩⟩
    · refine thnF (T.item (X.blk s3 H3 scope env fp) rfl rfl rfl hc i [] t _ G (fun _ _ => False) J4 (quiet J4 nt) stt go) fun r t1 ⟨u, er, h5⟩ => ?_
      subst er
      refine thnF h5 fun _ t2 ⟨x, G2, J5, rx, yx, st5, n5⟩ => ?_
      have J6 := J5.pinned (quiet J5 n5) (T.obj _ _ st5)
      refine thnF (pg.run _ t2 _ G2 x u _ J6 rx (each x G2 yx)) fun _ t3 ⟨ρ, G3, J7, hw7, q7⟩ => ?_
      refine thnF (pt.run _ t3 ρ G3 _ J7 q7) fun b t4 ⟨G4, J8, q8⟩ => ?_
      have next : ∀ {t' : Shared} {G' : Hp}, Inv (X.blk s3 H3 scope env fp) ([] ++ pinsAt fp t2.heap) ρ G' t' → N G' → ∃ m, m < n ∧ Loop m t' := fun {t' G'} J' hN'' => by
        obtain ⟨m', lt, hS'⟩ := hN' G' hN''
        have still : ∀ b ∈ fp, ∀ ob, t2.heap.get? b = some ob → t'.heap.get? b = some ob ∧ G' b = none := fun b hb ob e =>
          have z := J'.pin (b, ob) (List.mem_append_right _ (List.mem_append_right _ (mem_pinsAt hb e)))
          ⟨z.1, z.2.1⟩
        have len : (L2.wipe σ (own.map (·.2))).length = ρ.length := by rw [← hw7, L2.wipe_length]
        refine ⟨m', lt, i + 1, G', (J'.unpinned (pins := [])).weak len (fun j v e => ?_), T.keep _ _ _ st5 fun b hb ob e => (still b hb ob e).1, fun b hb => ?_, hS'⟩
        · rw [← hw7] at e
          exact (wipe_some e).1
        · obtain ⟨ob, e, _⟩ := T.obj _ _ st5 b hb
          exact (still b hb ob e).2
      cases b with
      | false =>
        rw [if_neg Bool.false_ne_true] at q8 ⊢
        exact next J8 q8
      | true =>
        rw [if_pos rfl] at q8 ⊢
        refine thnF (pk.run _ t4 ρ G4 _ J8 q8) fun kv t5 ⟨y, G5, J9, ry, q9⟩ => ?_
        refine thnF (pv.run _ t5 ρ G5 _ J9 q9) fun vv t6 ⟨z, G6, J10, rz, put⟩ => ?_
        exact put (X.blk s3 H3 scope env fp) rfl rfl rfl _ t6 ρ _ kv vv _ J10 ry rz fun o' t7 J11 h11 => next J11 h11
  exact codeAny_compStart_dict loop (T.self X.A 0 _ _ _ st4 loop)
abbrev dcF (kk : Bool) (vs : List Nat) (t : Tg) (ifs : Dens) (nk nv : Den) (ρ : Rho) : D → M (Option (D × D)) := fun d => noExc (turn vs t ifs none (fun ρ' => do
      let z ← nk.v ρ'
      let y ← nv.v ρ'
      if keyOk kk z then M.ret (some (z, y)) else M.bad) ρ d)
theorem putAll_snoc : ∀ (ps l : List (D × D)) (p : D × D), putAll l (ps ++ [p]) = put (putAll l ps) p.1 p.2
  | [], l, (a, b) => rfl
  | (a, b) :: ps, l, p => putAll_snoc ps (put l a b) p
theorem putAll_length : ∀ (ps l : List (D × D)), (putAll l ps).length ≤ l.length + ps.length
  | [], l => Nat.le_refl _
  | (a, b) :: ps, l => by
    have h1 := putAll_length ps (put l a b)
    have h2 := put_length l a b
    show (putAll (put l a b) ps).length ≤ _
    rw [List.length_cons]
    omega
theorem at_dct_ne {w : World} {W : Wd} {H : Hp} {p : Addr} {k : Bool} {l : List (D × D)} (h : At w ca W H p (.dct k l)) : ∃ o, H p = some o ∧ ∀ ps, o ≠ .tbl ps := by
  cases k with
  | false => obtain ⟨kvs, e, _⟩ := h; exact ⟨_, e, fun _ => HO.noConfusion⟩
  | true => obtain ⟨o, es, ep, e, _⟩ := h; exact ⟨_, e, fun _ => HO.noConfusion⟩
theorem keepAt {w : World} {W W' : Wd} {H H' : Hp} {p : Addr} {k : Bool} {l : List (D × D)} (f : Fr W H W' H') (h : At w ca W H p (.dct k l)) (s : W.S p = none) (m : p ∉ W.ι) : At w ca W' H' p (.dct k l) ∧ W'.S p = none ∧ p ∉ W'.ι := by
  obtain ⟨o, e, n⟩ := at_dct_ne h
  obtain ⟨a, b, c⟩ := keepD f e n s m
  exact ⟨At.mono f.le (fun u q => by rw [e] at q; cases q; exact a) _ h, b, c⟩
theorem dct_at_fr {w : World} {W W' : Wd} {T : Hp} {p : Addr} {k : Bool} {l : List (D × D)} (h : W.le W') (q : At w ca W T p (.dct k l)) : At w ca W' T p (.dct k l) := At.mono h (fun u e => e) _ q
theorem new_dc {n nk nv : Den} {t : Tg} {nis : Dens} {it : Rho → M (List D)} (y : Cy X Wx) (hi : PI X tg iter (TIt X.w ca Wx it)) (ok : BlkOk X.N X.env.scope scope own) (ht : ∀ i ∈ tgSlots t, i ∈ own.map (·.2))
    (hg : ∀ s H C cl fp, PG (X.blk s H scope (compEnvC scope cl C X.env) fp) tg (gOf X.K t)) (hifs : ∀ s H C cl fp, SdIf ca WxF (X.blk s H scope (compEnvC scope cl C X.env) fp) ifs nis)
    (hk : ∀ s H C cl fp, Sd ca WxF (X.blk s H scope (compEnvC scope cl C X.env) fp) kx nk) (hv : ∀ s H C cl fp, Sd ca WxF (X.blk s H scope (compEnvC scope cl C X.env) fp) vx nv) (hs : ∀ x, foldedSetIterable iter X.env x = pure x := by intro _; rfl) :
    PE X (.DictComp kx vx [⟨tg, iter, ifs, 0⟩] scope pos) (TNew X.w ca Wx (Dn.dc kk (own.map (·.2)) t it nis nk nv).v) := by
  refine PE.of (pe_dca (ca := ca) (kk := kk) (tt := TB X.w ca WxF fun ρ => evIfs ρ nis) (tk := TV X.w ca WxF nk.v) (tv := TV X.w ca WxF nv.v) y.calm y.nd hi ok hg (fun s H C cl fp => (hifs s H C cl fp).pts) (fun s H C cl fp => (hk s H C cl fp).v) (fun s H C cl fp => (hv s H C cl fp).v) hs) fun σ H K ⟨W, ρ, μ, g, r, hw⟩ => ?_
  refine ⟨W, ρ, μ, g, r, hw.bind.imp fun W1 μ1 H1 ds g1 f1 h1 J hJ D o hD hA => ?_⟩
  obtain ⟨hz, h1⟩ := sized_ok h1
  obtain ⟨l, μ2, el, h2⟩ := compM_noExc h1
  have r1 := r.fr f1
  let Mid : Nat → Hp → Prop := fun i H' => ∃ W' μ' acc rest, GS X.w ca W' μ' H' ∧ Fr W1 H1 W' H' ∧ W'.S D = none ∧ D ∉ W'.ι ∧ At X.w ca W' H' D (.dct kk (putAll [] acc)) ∧ acc.length ≤ i ∧ compM (dcF kk (own.map (·.2)) t nis nk nv ρ) (ds.drop i) μ' = .ok rest μ2 ∧ acc ++ rest = l
  refine ⟨fun i m H' => m = ds.length - i ∧ i ≤ ds.length ∧ Mid i H', ⟨ds.length, rfl, Nat.zero_le _, W1, μ1, [], l, g1.beside hD, Mp.Fr.beside hD, (g1.free hD).1, (g1.free hD).2, hA W1, Nat.le_refl _, el, rfl⟩, ?_⟩
  rintro i m H' ⟨rfl, hi, W', μ', acc, rest, g', f', sD, iD, aD, ha, er, eq⟩
  by_cases hlt : i < ds.length
  · refine .inr ⟨((hJ i W' μ' H' g' f'.le).1 _ (List.getElem?_eq_getElem hlt)).1, Mid (i + 1), fun H'' h => ⟨ds.length - (i + 1), by omega, rfl, by omega, h⟩, fun x H'' hy => ?_⟩
    obtain ⟨W2, g2, f2, rx⟩ := ((hJ i W' μ' H' g' f'.le).1 _ (List.getElem?_eq_getElem hlt)).2 x H'' hy
    obtain ⟨a2, s2, i2⟩ := keepAt f2 aD sD iD
    have hdr : ds.drop i = ds[i] :: ds.drop (i + 1) := List.drop_eq_getElem_cons hlt
    rw [hdr] at er
    obtain ⟨op, μ3, rest', e1, e2, e3⟩ := compM_ok er
    obtain ⟨ρ', c, μ4, ea, ec, eo⟩ := turn_ok (noExc_ok e1)
    have sr2 := (r1.fr (f'.trans f2)).wipe (own.map (·.2))
    refine g_read g2 sr2 rx ea fun σ' sr' hw' => ⟨by rw [hw' _ ht, wipe_wipe], ?_⟩
    refine tb_of (X := X) (Wx := WxF) g2 sr' ec fun W3 H3 g3 f3 => ?_
    obtain ⟨a3, s3, i3⟩ := keepAt f3 a2 s2 i2
    cases c with
    | false =>
      rw [if_neg Bool.false_ne_true] at eo ⊢
      cases eo
      subst e3
      exact ⟨W3, _, acc, _, g3, (f'.trans f2).trans f3, s3, i3, a3, by omega, e2, eq⟩
    | true =>
      rw [if_pos rfl] at eo ⊢
      obtain ⟨z, μ5, e4, eo⟩ := bind_ok eo
      have eo : (nv.v ρ' >>= fun y => if keyOk kk z then M.ret (some (z, y)) else M.bad) μ5 = .ok op μ3 := eo
      obtain ⟨d, μ6, e5, eo⟩ := bind_ok eo
      by_cases hkz : keyOk kk z = true
      · rw [if_pos hkz] at eo
        cases eo
        subst e3
        refine tv_of (X := X) (Wx := WxF) g3 (sr'.fr f3) e4 fun W4 H4 u g4 f4 ru => ?_
        obtain ⟨a4, s4, i4⟩ := keepAt f4 a3 s3 i3
        refine tv_of (X := X) (Wx := WxF) g4 (sr'.fr (f3.trans f4)) e5 fun W5 H5 v g5 f5 rv => ?_
        obtain ⟨a5, s5, i5⟩ := keepAt f5 a4 s4 i4
        intro Y hp hw hA pins s τ E ku vr Q IY ry rz hQ
        have hl : (putAll [] acc).length < line := by
          have h1 := putAll_length acc []
          have h3 := line_eq
          simp only [List.length_nil, Nat.zero_add] at h1
          omega
        have hu5 : Y.A.units + 16 < cLine := by rw [hA]; exact y.u16
        rw [← hw] at a5 rv g5
        have ru5 : Rep Y.w ca W5 z u := by rw [hw]; exact Rep.mono f5.le _ _ ru
        refine dct_put hu5 IY g5.sub a5 hkz ru5 ry rv rz hl fun o' s' I' a' => hQ o' s' I' ?_
        rw [hw] at a' g5
        exact ⟨W5, _, acc ++ [(z, d)], _, g5.other s5 i5 (fun ps e => a5.notTbl e), ((((f'.trans f2).trans f3).trans f4).trans f5).upd0 hD, s5, i5, by rw [putAll_snoc]; exact a', by rw [List.length_append]; simp; omega, e2, by rw [List.append_assoc]; exact eq⟩
      · rw [if_neg hkz] at eo
        cases eo
  · have e : i = ds.length := by omega
    subst e
    refine .inl ⟨(hJ _ W' μ' H' g' f'.le).2 (Nat.le_refl _), ?_⟩
    rw [List.drop_length] at er
    cases er
    rw [List.append_nil] at eq
    subst eq
    have g3 := g'.del sD iD fun ps e => aD.notTbl e
    obtain ⟨o', eo', _⟩ := at_dct_ne aD
    have h3 := (h2 W' (Mp.del H' D) g3 (f'.del0 hD)).ret g3 D o' del_same (by rw [upd_del, upd_id eo']; exact aD)
    rw [upd_del, upd_id eo'] at h3
    exact h3
theorem Sd.dc {nk nv : Den} {t : Tg} {nis : Dens} {it : Rho → M (List D)} (y : Cy X Wx) (hi : PI X tg iter (TIt X.w ca Wx it)) (ok : BlkOk X.N X.env.scope scope own) (ht : ∀ i ∈ tgSlots t, i ∈ own.map (·.2))
    (hg : ∀ s H C cl fp, PG (X.blk s H scope (compEnvC scope cl C X.env) fp) tg (gOf X.K t)) (hifs : ∀ s H C cl fp, SdIf ca WxF (X.blk s H scope (compEnvC scope cl C X.env) fp) ifs nis)
    (hk : ∀ s H C cl fp, Sd ca WxF (X.blk s H scope (compEnvC scope cl C X.env) fp) kx nk) (hv : ∀ s H C cl fp, Sd ca WxF (X.blk s H scope (compEnvC scope cl C X.env) fp) vx nv) (hs : ∀ x, foldedSetIterable iter X.env x = pure x := by intro _; rfl) :
    Sd ca Wx X (.DictComp kx vx [⟨tg, iter, ifs, 0⟩] scope pos) (Dn.dc kk (own.map (·.2)) t it nis nk nv) := .ofV (pe_new (new_dc (n := nk) y hi ok ht hg hifs hk hv hs)) rfl
end
end Mp

/-! List comprehensions with two clauses (own work). -/
namespace Mp
open PySem PySem.Spec PyProof.Rows L2

section
variable {ca : CA} {Wx : WX} {X : Cx} {elt tg iter tg1 iter1 : Expr} {scope : Scope} {own : List (Str × Nat)} {pos : Pos} {n : Den}
theorem few_ok {l : List D} {μ μ' : Mu} {u : Unit} (h : few l μ = .ok u μ') : l.length ≤ 4000 ∧ μ = μ' := by
  unfold few at h
  split at h
  · rename_i z
    cases h
    exact ⟨z, rfl⟩
  · cases h
theorem few_wp {w : World} {σ : L2.St} {W : Wd} {μ : Mu} {H : Hp} {α : Type} {l : List D} {f : Unit → M α} {P : Wd → Mu → Hp → α → Prop} (h : Wp w ca Wx (few l >>= f) σ W μ H P) : l.length ≤ 4000 ∧ Wp w ca Wx (f ()) σ W μ H P := by
  unfold few at h
  split at h
  · rename_i z
    exact ⟨z, h⟩
  · exact (Wp.bad (α := α) h).elim
abbrev rowF (vs2 : List Nat) (t2 : Tg) (n : Den) (ρ' : Rho) : D → M (Option D) := fun e => turn vs2 t2 [] none (fun ρ2 => do
        let y ← n.v ρ2
        M.ret (some y)) ρ' e
abbrev lc2F (vs : List Nat) (t : Tg) (vs2 : List Nat) (t2 : Tg) (it2 : Rho → M (List D)) (n : Den) (ρ : Rho) : D → M (Option (List D)) := fun d => noExc (turn vs t [] none (fun ρ' => do
      let es ← it2 ρ'
      few es
      let r ← compM (rowF vs2 t2 n ρ') es
      M.ret (some r)) ρ d)
theorem ti_of {it : Rho → M (List D)} {ds : List D} {σ : L2.St} {W : Wd} {μ μ' : Mu} {H : Hp} {ρ : Rho} {R : It → Hp → Prop} (g : GS X.w ca W μ H) (r : SR X.w ca W H σ ρ) (e : it ρ μ = .ok ds μ') (h : ∀ W' H' J, GS X.w ca W' μ' H' → Fr W H W' H' → ItRep X.w ca W' H' J ds → R J H') : TIt X.w ca Wx it σ H R :=
  ⟨W, ρ, μ, g, r, .of_ok e fun W' H' g' f' J hJ => h W' H' J g' f' hJ⟩
theorem if_yes {σ : L2.St} {H : Hp} {A B : Hp → Prop} (h : A H) : tYes σ H fun b H => if b = true then A H else B H := by
  show (if true = true then A H else B H)
  rw [if_pos rfl]
  exact h
theorem new_lc2 {t t2 : Tg} {vs2 : List Nat} {it it2 : Rho → M (List D)} (y : Cy X Wx) (hi : PI X tg iter (TIt X.w ca Wx it)) (ok : BlkOk X.N X.env.scope scope own) (ht : ∀ i ∈ tgSlots t, i ∈ own.map (·.2)) (ht2 : ∀ i ∈ tgSlots t2, i ∈ vs2) (hv : ∀ i ∈ vs2, i ∈ own.map (·.2))
    (hg : ∀ s H C cl fp, PG (X.blk s H scope (compEnvC scope cl C X.env) fp) tg (gOf X.K t)) (hi2 : ∀ s H C cl fp, PI (X.blk s H scope (compEnvC scope cl C X.env) fp) tg1 iter1 (TIt X.w ca WxF it2)) (hg2 : ∀ s H C cl fp, PG (X.blk s H scope (compEnvC scope cl C X.env) fp) tg1 (gOf X.K t2))
    (he : ∀ s H C cl fp, Sd ca WxF (X.blk s H scope (compEnvC scope cl C X.env) fp) elt n) (hs : ∀ x, foldedSetIterable iter X.env x = pure x := by intro _; rfl) (hs1 : ∀ env x, foldedSetIterable iter1 env x = pure x := by intro _ _; rfl) :
    PE X (.ListComp elt [⟨tg, iter, [], 0⟩, ⟨tg1, iter1, [], 0⟩] scope pos) (TNew X.w ca Wx (Dn.lc2 (own.map (·.2)) t it vs2 t2 it2 n).v) := by
  refine PE.of (pe_lc2 (tt := tYes) (tt1 := tYes) (te := TV X.w ca WxF n.v) y.calm y.nd hi ok hv hg (fun s H C cl fp => pts_nil) hi2 hg2 (fun s H C cl fp => pts_nil) (fun s H C cl fp => (he s H C cl fp).v) hs hs1) fun σ H K ⟨W, ρ, μ, g, r, hw⟩ => ?_
  refine ⟨W, ρ, μ, g, r, hw.bind.imp fun W1 μ1 H1 ds g1 f1 h1 J hJ D hD => ?_⟩
  obtain ⟨hz, h1⟩ := few_wp h1
  obtain ⟨l, μ2, el, h2⟩ := compM_noExc h1
  have r1 := r.fr f1
  -- the list so far, at a state
  let At2 : Wd → Mu → Hp → List Mp.D → Prop := fun W' μ' H' acc => ∃ av, GS X.w ca W' μ' H' ∧ Fr W1 H1 W' H' ∧ W'.S D = none ∧ D ∉ W'.ι ∧ H' D = some (.lst av) ∧ Reps X.w ca W' acc av
  have at_fr : ∀ {W' μ' H' acc W2 μ2 H2}, At2 W' μ' H' acc → GS X.w ca W2 μ2 H2 → Fr W' H' W2 H2 → At2 W2 μ2 H2 acc := fun {W' μ' H' acc W2 μ2 H2} ⟨av, g', f', s', i', e', a'⟩ g2 f2 => by
    obtain ⟨e2, s2, i2⟩ := keepD f2 e' (fun _ => HO.noConfusion) s' i'
    exact ⟨av, g2, f'.trans f2, s2, i2, e2, Reps.mono f2.le _ _ a'⟩
  let Mid : Nat → Hp → Prop := fun i H' => ∃ W' μ' acc rest, At2 W' μ' H' acc ∧ acc.length ≤ 4000 * i ∧ compM (lc2F (own.map (·.2)) t vs2 t2 it2 n ρ) (ds.drop i) μ' = .ok rest μ2 ∧ acc ++ rest.flatten = l.flatten
  refine ⟨fun i m H' => m = ds.length - i ∧ i ≤ ds.length ∧ Mid i H', ⟨ds.length, rfl, Nat.zero_le _, W1, μ1, [], l, ⟨[], g1.beside hD, Mp.Fr.beside hD, (g1.free hD).1, (g1.free hD).2, upd_same, rfl⟩, Nat.zero_le _, el, rfl⟩, ?_⟩
  rintro i m H' ⟨rfl, hi, W', μ', acc, rest, ha, hl, er, eq⟩
  obtain ⟨av, g', f', sD, iD, eD, ra⟩ := id ha
  by_cases hlt : i < ds.length
  · refine .inr ⟨((hJ i W' μ' H' g' f'.le).1 _ (List.getElem?_eq_getElem hlt)).1, Mid (i + 1), fun H'' h => ⟨ds.length - (i + 1), by omega, rfl, by omega, h⟩, fun x H'' hy => ?_⟩
    obtain ⟨W2, g2, f2, rx⟩ := ((hJ i W' μ' H' g' f'.le).1 _ (List.getElem?_eq_getElem hlt)).2 x H'' hy
    have ha2 := at_fr ha g2 f2
    have hdr : ds.drop i = ds[i] :: ds.drop (i + 1) := List.drop_eq_getElem_cons hlt
    rw [hdr] at er
    obtain ⟨o, μ3, rest', e1, e2, e3⟩ := compM_ok er
    obtain ⟨ρ', c, μ4, ea, ec, eo⟩ := turn_ok (noExc_ok e1)
    have ec : Res.ok true μ' = .ok c μ4 := ec
    cases ec
    rw [if_pos rfl] at eo
    obtain ⟨es, μ5, e4, eo⟩ := bind_ok eo
    have eo : (few es >>= fun _ => compM (rowF vs2 t2 n ρ') es >>= fun r => M.ret (some r)) μ5 = .ok o μ3 := eo
    obtain ⟨_, μ6, e5, eo⟩ := bind_ok eo
    obtain ⟨hes, rfl⟩ := few_ok e5
    have eo : (compM (rowF vs2 t2 n ρ') es >>= fun r => M.ret (some r)) μ5 = .ok o μ3 := eo
    obtain ⟨row, μ7, e6, eo⟩ := bind_ok eo
    cases eo
    subst e3
    have sr2 := (r1.fr (f'.trans f2)).wipe (own.map (·.2))
    refine g_read2 g2 sr2 rx ea fun σ' up hw' => ⟨by rw [hw' _ ht, wipe_wipe], ?_⟩
    have sr' := up _ _ (Wd.le.refl W2) sr2
    refine if_yes ?_
    refine ti_of (X := X) (Wx := WxF) g2 sr' e4 fun W3 H3 J1 g3 f3 hJ1 => ?_
    have ha3 := at_fr ha2 g3 f3
    have sr3 := sr'.fr f3
    have eq : acc ++ (row ++ rest'.flatten) = l.flatten := eq
    -- the inner loop
    let Mid1 : Nat → Hp → Prop := fun j G => ∃ V μa acc1 more, At2 V μa G acc1 ∧ SR X.w ca V G σ' ρ' ∧ W3.le V ∧ acc1.length ≤ 4000 * i + j ∧ compM (rowF vs2 t2 n ρ') (es.drop j) μa = .ok more μ3 ∧ acc1 ++ (more ++ rest'.flatten) = l.flatten
    refine ⟨fun j k G => k = es.length - j ∧ j ≤ es.length ∧ Mid1 j G, ⟨es.length, rfl, Nat.zero_le _, W3, μ5, acc, row, ha3, sr3, Wd.le.refl _, by omega, e6, eq⟩, ?_⟩
    rintro j k G ⟨rfl, hj, V, μa, acc1, more, hb, srV, fV, hl1, em, eq1⟩
    obtain ⟨av1, gV, fV1, sD1, iD1, eD1, ra1⟩ := id hb
    by_cases hjt : j < es.length
    · refine .inr ⟨((hJ1 j V μa G gV fV).1 _ (List.getElem?_eq_getElem hjt)).1, Mid1 (j + 1), fun G' h => ⟨es.length - (j + 1), by omega, rfl, by omega, h⟩, fun x2 G' hy2 => ?_⟩
      obtain ⟨V2, gV2, fV2, rx2⟩ := ((hJ1 j V μa G gV fV).1 _ (List.getElem?_eq_getElem hjt)).2 x2 G' hy2
      have hb2 := at_fr hb gV2 fV2
      have hdj : es.drop j = es[j] :: es.drop (j + 1) := List.drop_eq_getElem_cons hjt
      rw [hdj] at em
      obtain ⟨o2, μb, more', d1, d2, d3⟩ := compM_ok em
      obtain ⟨ρ2, c2, μc, da, dc, do2⟩ := turn_ok d1
      have dc : Res.ok true μa = .ok c2 μc := dc
      cases dc
      rw [if_pos rfl] at do2
      obtain ⟨yv, μd, d4, do2⟩ := bind_ok do2
      cases do2
      subst d3
      have sr4 := (srV.fr fV2).wipe vs2
      refine g_read gV2 sr4 rx2 da fun σ2 sr5 hw2 => ⟨by rw [hw2 _ ht2, wipe_wipe], ?_⟩
      refine if_yes ?_
      refine tv_of (X := X) (Wx := WxF) gV2 sr5 d4 fun V3 G3 v g6 f6 rv => ?_
      obtain ⟨av3, _, f7, s7, i7, e7, a7⟩ := at_fr hb2 g6 f6
      have hlen : av3.length = acc1.length := a7.length
      have hsz : sizeLine = 16777216 := sizeLine_eq
      refine ⟨av3, e7, by omega, V3, _, acc1 ++ [yv], more', ⟨av3 ++ [v], g6.other s7 i7 (fun ps e => by rw [e7] at e; cases e), f7.upd0 hD, s7, i7, upd_same, a7.append ⟨v, [], rfl, rv, rfl⟩⟩, ?_, (fV.trans fV2.le).trans f6.le, by rw [List.length_append]; simp; omega, d2, by rw [List.append_assoc]; exact eq1⟩
      exact up _ _ ((f3.le.trans fV).trans (fV2.le.trans f6.le)) ((r1.fr (f7.upd0 hD)).wipe _)
    · have e : j = es.length := by omega
      subst e
      rw [List.drop_length] at em
      cases em
      exact .inl ⟨(hJ1 _ V _ G gV fV).2 (Nat.le_refl _), V, _, acc1, rest', hb, by omega, e2, eq1⟩
  · have e : i = ds.length := by omega
    subst e
    refine .inl ⟨(hJ _ W' μ' H' g' f'.le).2 (Nat.le_refl _), ?_⟩
    rw [List.drop_length] at er
    cases er
    rw [List.flatten_nil, List.append_nil] at eq
    have g3 := g'.del sD iD fun ps e => by rw [eD] at e; cases e
    have h3 := (h2 W' (Mp.del H' D) g3 (f'.del0 hD)).ret g3 D (.lst av) del_same ⟨av, by rw [upd_del, upd_same], by rw [← eq]; exact ra⟩
    rw [upd_del, upd_id eD] at h3
    exact h3
theorem Sd.lc2 {t t2 : Tg} {vs2 : List Nat} {it it2 : Rho → M (List D)} (y : Cy X Wx) (hi : PI X tg iter (TIt X.w ca Wx it)) (ok : BlkOk X.N X.env.scope scope own) (ht : ∀ i ∈ tgSlots t, i ∈ own.map (·.2)) (ht2 : ∀ i ∈ tgSlots t2, i ∈ vs2) (hv : ∀ i ∈ vs2, i ∈ own.map (·.2))
    (hg : ∀ s H C cl fp, PG (X.blk s H scope (compEnvC scope cl C X.env) fp) tg (gOf X.K t)) (hi2 : ∀ s H C cl fp, PI (X.blk s H scope (compEnvC scope cl C X.env) fp) tg1 iter1 (TIt X.w ca WxF it2)) (hg2 : ∀ s H C cl fp, PG (X.blk s H scope (compEnvC scope cl C X.env) fp) tg1 (gOf X.K t2))
    (he : ∀ s H C cl fp, Sd ca WxF (X.blk s H scope (compEnvC scope cl C X.env) fp) elt n) (hs : ∀ x, foldedSetIterable iter X.env x = pure x := by intro _; rfl) (hs1 : ∀ env x, foldedSetIterable iter1 env x = pure x := by intro _ _; rfl) :
    Sd ca Wx X (.ListComp elt [⟨tg, iter, [], 0⟩, ⟨tg1, iter1, [], 0⟩] scope pos) (Dn.lc2 (own.map (·.2)) t it vs2 t2 it2 n) := .ofV (pe_new (new_lc2 y hi ok ht ht2 hv hg hi2 hg2 he hs hs1)) rfl
end
end Mp

/-! Statements (own work). -/
namespace Mp
open PySem PySem.Spec PyProof.Rows L2

/-- the def's own things were not there when it began -/
def OwnNew (H0 : Hp) (σ : L2.St) (ρ : Rho) : Prop := ∀ (i : Nat) (d : D) (a : Addr), ρ[i]? = some (some (.own d)) → σ[i]? = some (some (.ref a)) → H0 a = none
def EndAt (w : World) (ca : CA) (H0 : Hp) (N : Ends) : Wd → Mu → Hp → Out → Prop := fun W _ H o => match o with
  | .next ρ => ∀ σ, SR w ca W H σ ρ → OwnNew H0 σ ρ → N.nx σ H
  | .ret d => ∀ v, Rep w ca W d v → N.rt v H
  | .brk ρ => ∀ σ, SR w ca W H σ ρ → OwnNew H0 σ ρ → N.bk σ H
  | .cont ρ => ∀ σ, SR w ca W H σ ρ → OwnNew H0 σ ρ → N.ct σ H
/-- .. from where the def began: W0, H0 -/
structure TSt (w : World) (ca : CA) (Wx : WX) (m : Sm) (N : Ends) (σ : L2.St) (H : Hp) : Prop where
  ex : ∃ W0 H0 W ρ μ, GS w ca W μ H ∧ SR w ca W H σ ρ ∧ Fr W0 H0 W H ∧ OwnNew H0 σ ρ ∧ Wp w ca Wx (m ρ) σ W0 μ H0 (EndAt w ca H0 N)
/-- a statement does what is said -/
structure St1 (ca : CA) (Wx : WX) (X : Cx) (st : Stmt) (m : Sm) : Prop where
  ps : PS X st (TSt X.w ca Wx m)
structure Sts (ca : CA) (Wx : WX) (X : Cx) (st : List Stmt) (m : Sm) : Prop where
  ps : PSs X st (TSt X.w ca Wx m)
theorem Wp.slot {α : Type} {w : World} {ca : CA} {Wx : WX} {X : Cx} {m : M α} {σ σ' : L2.St} {W : Wd} {μ : Mu} {H : Hp} {P : Wd → Mu → Hp → α → Prop} (y : Cy X Wx) (h : Wp w ca Wx m σ W μ H P) : Wp w ca Wx m σ' W μ H P := by
  obtain ⟨E, rfl⟩ := y.sf
  exact h
theorem Wp.bindB {α β : Type} {w : World} {ca : CA} {Wx : WX} {m : M α} {f : α → M β} {σ : L2.St} {W0 W : Wd} {μ : Mu} {H0 H : Hp} {P : Wd → Mu → Hp → β → Prop} (h : Wp w ca Wx (m >>= f) σ W0 μ H0 P) (fr : Fr W0 H0 W H) : Wp w ca Wx m σ W μ H fun _ μ1 _ a => Wp w ca Wx (f a) σ W0 μ1 H0 P := by
  have h : Wp w ca Wx (M.bind m f) σ W0 μ H0 P := h
  unfold Wp M.bind at h
  unfold Wp
  cases e : m μ with
  | ok a μ' => rw [e] at h; exact fun _ _ _ _ => h
  | exc x μ' => rw [e] at h; exact fun W2 H2 c d g2 f2 => h W2 H2 c d g2 (fr.trans f2)
  | bad => rw [e] at h; exact h
section
variable {ca : CA} {Wx : WX} {X : Cx} {st : Stmt} {sts body els : List Stmt} {m k : Sm} {e a b c : Expr} {n na nb nc : Den} {pos tpos : Pos}
theorem OwnNew.same {H0 : Hp} {σ : L2.St} {ρ : Rho} {i : Nat} {d : D} {v : Option V} (o : OwnNew H0 σ ρ) : OwnNew H0 (σ.set i v) (ρ.set i (some (.dat d))) := fun j d' a e1 e2 => by
  have z : i ≠ j := fun z => by
    subst z
    have hl := (List.getElem?_eq_some_iff.mp e1).1
    rw [List.length_set] at hl
    rw [List.getElem?_set_self hl] at e1
    cases e1
  rw [List.getElem?_set_ne z] at e1 e2
  exact o j d' a e1 e2
theorem OwnNew.all {H0 : Hp} : ∀ {is : List Nat} {l : List D} {xs : List V} {σ : L2.St} {ρ ρ' : Rho}, OwnNew H0 σ ρ → xs.length = is.length → setAll ρ is l = some ρ' → OwnNew H0 (setV σ is xs) ρ'
  | [], [], xs, σ, ρ, ρ', o, _, e => by
    cases e
    cases xs <;> exact o
  | [], _ :: _, _, _, _, _, _, _, e => by cases e
  | _ :: _, [], _, _, _, _, _, _, e => by cases e
  | i :: is, d :: l, [], σ, ρ, ρ', o, h, e => by simp at h
  | i :: is, d :: l, x :: xs, σ, ρ, ρ', o, h, e => by
    have o' := OwnNew.same (i := i) (d := d) (v := some x) o
    show OwnNew H0 (setV (σ.set i (some x)) is xs) ρ'
    exact OwnNew.all o' (by simpa using h) e
theorem g_readS {w : World} {W : Wd} {μ : Mu} {H0 H : Hp} {σ : L2.St} {ρ ρ' : Rho} {K : PySem.W.Frag} {t : Tg} {d : D} {x : V} {Q : L2.St → Hp → Prop} (g : GS w ca W μ H) (r : SR w ca W H σ ρ) (o : OwnNew H0 σ ρ) (rx : Rep w ca W d x) (e : Mp.assign ρ t d = some ρ')
    (h : ∀ σ', SR w ca W H σ' ρ' → OwnNew H0 σ' ρ' → Q σ' H) : gOf K t x σ H Q := by
  cases t with
  | name i =>
    cases e
    exact h _ (r.set rx) o.same
  | names is =>
    cases d <;> first | (cases e; done) | skip
    rename_i l
    obtain ⟨a, xs, rfl, ea, rl⟩ := rx
    obtain ⟨h1, h2⟩ := r.setAll rl e
    exact ⟨a, xs, rfl, SqT.of (g.sub _ _ ea), h2, gsOf_read h2 (h _ h1 (o.all h2 e))⟩
theorem Sts.nil : Sts ca Wx X [] Dm.nil := ⟨PSs.of pss_nil fun N σ H ⟨W0, H0, W, ρ, μ, g, r, f, o, hw⟩ => hw W H g f σ r o⟩
theorem Sts.one (h : St1 ca Wx X st m) : Sts ca Wx X [st] m := ⟨pss_one h.ps⟩
theorem seq_wp {w : World} {N : Ends} {σ : L2.St} {W0 : Wd} {μ : Mu} {H0 : Hp} {ρ : Rho} (y : Cy X Wx) (h : Wp w ca Wx (Dm.cons m k ρ) σ W0 μ H0 (EndAt w ca H0 N)) : Wp w ca Wx (m ρ) σ W0 μ H0 (EndAt w ca H0 { N with nx := TSt w ca Wx k N }) := by
  have h : Wp w ca Wx (m ρ >>= fun o => match o with
    | .next ρ' => k ρ'
    | o => M.ret o) σ W0 μ H0 (EndAt w ca H0 N) := h
  refine (h.bindB (Mp.Fr.refl W0 H0)).imp fun W1 μ1 H1 o g1 f1 h1 => ?_
  cases o with
  | next ρ' => exact fun σ' r' o' => ⟨W0, H0, W1, ρ', μ1, g1, r', f1, o', h1.slot y⟩
  | ret d => exact h1 W1 H1 g1 f1
  | brk ρ' => exact h1 W1 H1 g1 f1
  | cont ρ' => exact h1 W1 H1 g1 f1
theorem Sts.cons (y : Cy X Wx) (h : St1 ca Wx X st m) (t : Sts ca Wx X sts k) : Sts ca Wx X (st :: sts) (Dm.cons m k) :=
  ⟨PSs.of (pss_cons h.ps t.ps) fun N σ H ⟨W0, H0, W, ρ, μ, g, r, f, o, hw⟩ => ⟨W0, H0, W, ρ, μ, g, r, f, o, seq_wp y hw⟩⟩
/-- what is never reached -/
theorem St1.never : St1 ca Wx X st Dm.never := ⟨⟨fun pins s σ H N I ⟨W0, H0, W, ρ, μ, g, r, f, o, hw⟩ => (Wp.bad hw).elim⟩⟩
theorem Sts.never : Sts ca Wx X sts Dm.never := ⟨⟨fun pins s σ H N I ⟨W0, H0, W, ρ, μ, g, r, f, o, hw⟩ => (Wp.bad hw).elim⟩⟩
theorem St1.ret (h : Sd ca Wx X e n) : St1 ca Wx X (.Return (some e) pos) (Dm.ret n) :=
  ⟨PS.of (ps_ret h.v) fun N σ H ⟨W0, H0, W, ρ, μ, g, r, f, o, hw⟩ => ⟨W, ρ, μ, g, r, (hw.bindB f).imp fun W1 μ1 H1 d g1 f1 h1 v rv => h1 W1 H1 g1 (f.trans f1) v rv⟩⟩
theorem St1.retN : St1 ca Wx X (.Return none pos) Dm.retN :=
  ⟨PS.of ps_retN fun N σ H ⟨W0, H0, W, ρ, μ, g, r, f, o, hw⟩ => hw W H g f .non rfl⟩
theorem St1.pass : St1 ca Wx X (.Pass pos) Dm.nil :=
  ⟨PS.of ps_pass fun N σ H ⟨W0, H0, W, ρ, μ, g, r, f, o, hw⟩ => hw W H g f σ r o⟩
theorem St1.brk : St1 ca Wx X (.Break pos) Dm.brk :=
  ⟨PS.of ps_break fun N σ H ⟨W0, H0, W, ρ, μ, g, r, f, o, hw⟩ => hw W H g f σ r o⟩
theorem St1.drop (h : Sd ca Wx X e n) (hs : swapsWith e none pos.line X.env = pure false := by rfl) : St1 ca Wx X (.Expr e pos) (Dm.drop n) :=
  ⟨PS.of (ps_expr h.v hs) fun N σ H ⟨W0, H0, W, ρ, μ, g, r, f, o, hw⟩ => ⟨W, ρ, μ, g, r, (hw.bindB f).imp fun W1 μ1 H1 d g1 f1 h1 v rv => h1 W1 H1 g1 (f.trans f1) σ (r.fr f1) o⟩⟩
theorem St1.if_ (hc : Sd ca Wx X c nc) (ha : Sts ca Wx X body m) (hb : Sts ca Wx X els k) : St1 ca Wx X (.If c body els pos) (Dm.if_ nc m k) :=
  ⟨PS.of (ps_if hc.t ha.ps hb.ps) fun N σ H ⟨W0, H0, W, ρ, μ, g, r, f, o, hw⟩ => ⟨W, ρ, μ, g, r, (hw.bindB f).imp fun W1 μ1 H1 b g1 f1 h1 b' e => by
    subst e
    cases b' with
    | true => rw [if_pos rfl] at h1 ⊢; exact ⟨W0, H0, W1, ρ, μ1, g1, r.fr f1, f.trans f1, o, h1⟩
    | false => rw [if_neg Bool.false_ne_true] at h1 ⊢; exact ⟨W0, H0, W1, ρ, μ1, g1, r.fr f1, f.trans f1, o, h1⟩⟩⟩
/-- targets of plain names, where the text stands -/
structure TgOk (X : Cx) (tg : Expr) (t : Tg) : Prop where
  pg : PG X tg (gOf X.K t)
theorem some_wpB {α β : Type} {w : World} {o : Option α} {f : α → M β} {σ : L2.St} {W0 : Wd} {μ : Mu} {H0 : Hp} {P : Wd → Mu → Hp → β → Prop} (h : Wp w ca Wx (M.some? o >>= f) σ W0 μ H0 P) : ∃ a, o = some a ∧ Wp w ca Wx (f a) σ W0 μ H0 P := by
  cases o with
  | none => exact (Wp.bad (α := β) h).elim
  | some a => exact ⟨a, rfl, h⟩
theorem St1.asg {tg : Expr} {t : Tg} (h : Sd ca Wx X e n) (ht : TgOk X tg t) (hs : swapsWithSole [tg] e pos.line X.env = pure false := by rfl) (hw : swappedStores [tg] e X.env = pure none := by rfl)
    (h1 : (assignEach [tg] X.env).map (·.2) = [PySem.assign tg X.env] := by rfl) : St1 ca Wx X (.Assign [tg] e pos) (Dm.asg t n) :=
  ⟨PS.of (ps_asg h.v ht.pg hs hw h1) fun N σ H ⟨W0, H0, W, ρ, μ, g, r, f, o, hw⟩ => ⟨W, ρ, μ, g, r, (hw.bindB f).imp fun W1 μ1 H1 d g1 f1 h1 v rv => by
    obtain ⟨ρ', e, h2⟩ := some_wpB h1
    exact g_readS g1 (r.fr f1) o rv e fun σ' r' o' => h2 W1 H1 g1 (f.trans f1) σ' r' o'⟩⟩
theorem St1.set {i : Nat} {x : Str} {p : Pos} (y : Cy X Wx) (h : Sd ca Wx X e n) (hi : X.N[i]? = some x) (hx : Loc X.env.scope x) (hs : swapsWith e (some (.Name x p)) pos.line X.env = pure false := by rfl) (hf : X.fn x = true ∨ X.env.scope.names.lookup x = some .local := by first | exact .inl rfl | exact .inr rfl) :
    St1 ca Wx X (.Assign [.Name x p] e pos) (Dm.asg (.name i) n) :=
  ⟨PS.of (ps_set y.nd hi hx h.v hs hf) fun N σ H ⟨W0, H0, W, ρ, μ, g, r, f, o, hw⟩ => ⟨W, ρ, μ, g, r, (hw.bindB f).imp fun W1 μ1 H1 d g1 f1 h1 v rv => h1 W1 H1 g1 (f.trans f1) _ ((r.fr f1).set rv) o.same⟩⟩
/-- a new thing of the def's own, in its slot -/
theorem SR.setOwn {w : World} {W : Wd} {μ : Mu} {H : Hp} {σ : L2.St} {ρ : Rho} {i : Nat} {d : D} {p : Addr} {o : HO} (g : GS w ca W μ H) (r : SR w ca W H σ ρ) (hp : H p = none) (h : At w ca W (upd H p o) p d) : SR w ca W (upd H p o) (σ.set i (some (.ref p))) (ρ.set i (some (.own d))) := by
  have r' := r.fr (Mp.Fr.beside (o := o) hp)
  obtain ⟨sp, ip⟩ := g.free hp
  have old : ∀ {j : Nat} {d' : D} {v : V}, ρ[j]? = some (some (.own d')) → σ[j]? = some (some v) → v ≠ .ref p := fun {j d' v} e1 e2 z => by
    obtain ⟨u, h1, a, h2, _, _, h3⟩ := r.at_ j _ e1
    rw [e2] at h1
    cases h1
    subst z
    cases h2
    obtain ⟨o', ho⟩ := h3.ex
    rw [hp] at ho
    cases ho
  refine ⟨by rw [List.length_set, List.length_set, r.len], fun j o' e => ?_, fun j k d1 d2 u e1 e2 e3 e4 => ?_⟩
  · by_cases z : i = j
    · subst z
      have hl := (List.getElem?_eq_some_iff.mp e).1
      rw [List.length_set] at hl
      rw [List.getElem?_set_self hl] at e
      cases e
      exact ⟨.ref p, by rw [List.getElem?_set_self (by rw [r.len]; exact hl)], p, rfl, sp, ip, h⟩
    · rw [List.getElem?_set_ne z] at e ⊢
      exact r'.at_ j o' e
  · by_cases z1 : i = j
    · by_cases z2 : i = k
      · exact z1.symm.trans z2
      · subst z1
        have hl := (List.getElem?_eq_some_iff.mp e3).1
        rw [List.length_set] at hl
        rw [List.getElem?_set_self hl] at e3
        cases e3
        rw [List.getElem?_set_ne z2] at e2 e4
        exact (old e2 e4 rfl).elim
    · by_cases z2 : i = k
      · subst z2
        have hl := (List.getElem?_eq_some_iff.mp e4).1
        rw [List.length_set] at hl
        rw [List.getElem?_set_self hl] at e4
        cases e4
        rw [List.getElem?_set_ne z1] at e1 e3
        exact (old e1 e3 rfl).elim
      · rw [List.getElem?_set_ne z1] at e1 e3
        rw [List.getElem?_set_ne z2] at e2 e4
        exact r.apart j k d1 d2 u e1 e2 e3 e4
theorem OwnNew.own {H0 : Hp} {σ : L2.St} {ρ : Rho} {i : Nat} {d : D} {p : Addr} (o : OwnNew H0 σ ρ) (hp : H0 p = none) : OwnNew H0 (σ.set i (some (.ref p))) (ρ.set i (some (.own d))) := fun j d' a e1 e2 => by
  by_cases z : i = j
  · subst z
    have hl := (List.getElem?_eq_some_iff.mp e2).1
    rw [List.length_set] at hl
    rw [List.getElem?_set_self hl] at e2
    cases e2
    exact hp
  · rw [List.getElem?_set_ne z] at e1 e2
    exact o j d' a e1 e2
/-- what was not there at first is not, where it is not now (tables grow, nothing goes) -/
theorem Fr.absent {W W' : Wd} {H H' : Hp} (f : Fr W H W' H') (sub : ∀ a o, W'.S a = some o → H' a = some o) (inh : ∀ a ∈ W'.ι, ∃ o, H' a = some o) {p : Addr} (h : H' p = none) : H p = none := by
  cases e : H p with
  | none => rfl
  | some o =>
    exfalso
    by_cases s : W.S p = none
    · by_cases m : p ∈ W.ι
      · obtain ⟨t, q⟩ := f.le.i
        obtain ⟨u, z⟩ := inh p (by rw [q]; exact List.mem_append_left _ m)
        rw [h] at z; cases z
      · obtain ⟨_, _, c⟩ := f.other p o e s m
        rcases c with c | ⟨_, _, _, c⟩
        · rw [h] at c; cases c
        · rw [h] at c; cases c
    · cases q : W.S p with
      | none => exact s q
      | some u =>
        have := sub p u (f.le.s _ _ q)
        rw [h] at this; cases this
theorem St1.own {i : Nat} {x : Str} {p : Pos} (y : Cy X Wx) (h : PE X e (TNew X.w ca Wx n.v)) (hi : X.N[i]? = some x) (hx : Loc X.env.scope x) (hs : swapsWith e (some (.Name x p)) pos.line X.env = pure false := by rfl) (hf : X.fn x = true ∨ X.env.scope.names.lookup x = some .local := by first | exact .inl rfl | exact .inr rfl) :
    St1 ca Wx X (.Assign [.Name x p] e pos) (Dm.own i n) :=
  ⟨PS.of (ps_set y.nd hi hx h hs hf) fun N σ H ⟨W0, H0, W, ρ, μ, g, r, f, o, hw⟩ => ⟨W, ρ, μ, g, r, (hw.bindB f).imp fun W1 μ1 H1 d g1 f1 h1 p ob hp ha => by
    by_cases z : ownOk d = true
    · rw [if_pos z] at h1
      have f2 := f.trans f1
      exact h1 W1 _ (g1.beside hp) (f2.trans (Mp.Fr.beside hp)) _ ((r.fr f1).setOwn g1 hp ha) (o.own (f2.absent g1.sub g1.inh hp))
    · rw [if_neg z] at h1
      exact (Wp.bad h1).elim⟩⟩
end
end Mp

/-! Loops (own work). -/
namespace Mp
open PySem PySem.Spec PyProof.Rows L2

section
variable {ca : CA} {Wx : WX} {X : Cx} {st : Stmt} {sts body els : List Stmt} {m k : Sm} {e a b c : Expr} {n na nb nc : Den} {pos tpos : Pos}
theorem Fr.rebase {W0 W : Wd} {H0 H : Hp} (f : Fr W0 H0 W H) : Fr W H0 W H := ⟨Wd.le.refl W, fun a o e s n => by
  have s0 : W0.S a = none := by
    cases q : W0.S a with
    | none => rfl
    | some u => rw [f.le.s _ _ q] at s; cases s
  have n0 : a ∉ W0.ι := fun m => by
    obtain ⟨t, q⟩ := f.le.i
    exact n (by rw [q]; exact List.mem_append_left _ m)
  exact f.other a o e s0 n0⟩
theorem Fr.unbase {W0 W W' : Wd} {H0 H H' : Hp} (f : Fr W0 H0 W H) (f2 : Fr W H0 W' H') : Fr W0 H0 W' H' := ⟨f.le.trans f2.le, fun a o e s n => by
  obtain ⟨s1, n1, _⟩ := f.other a o e s n
  exact f2.other a o e s1 n1⟩
theorem Wp.rebase {α : Type} {w : World} {m : M α} {σ : L2.St} {W0 W : Wd} {μ : Mu} {H0 H : Hp} {P : Wd → Mu → Hp → α → Prop} (h : Wp w ca Wx m σ W0 μ H0 P) (f : Fr W0 H0 W H) : Wp w ca Wx m σ W μ H0 P := by
  unfold Wp at *
  cases e : m μ with
  | ok a μ' => rw [e] at h; exact fun W' H' g f2 => h W' H' g (f.unbase f2)
  | exc x μ' => rw [e] at h; exact fun W' H' c d g f2 => h W' H' c d g (f.unbase f2)
  | bad => rw [e] at h; exact h
theorem St1.for_ {tg iter : Expr} {t : Tg} {it : Rho → M (List D)} (y : Cy X Wx) (hi : PI X tg iter (TIt X.w ca Wx it)) (ht : TgOk X tg t) (hb : Sts ca Wx X body m) (hs : ∀ x, foldedSetIterable iter X.env x = pure x := by intro _; rfl) : St1 ca Wx X (.For tg iter body [] pos) (Dm.for_ t it m) := by
  refine ⟨PS.of (ps_for y.po y.calm hi ht.pg hb.ps hs) fun N σ H ⟨W0, H0, W, ρ, μ, g, r, f, o, hw⟩ => ⟨W, ρ, μ, g, r, (hw.bindB f).imp fun W1 μ1 H1 ds g1 f1 h1 J hJ => ?_⟩⟩
  let Mid : Nat → L2.St → Hp → Prop := fun i σ' H' => ∃ W' ρ' μ', GS X.w ca W' μ' H' ∧ SR X.w ca W' H' σ' ρ' ∧ Fr W0 H0 W' H' ∧ OwnNew H0 σ' ρ' ∧ W1.le W' ∧ Wp X.w ca Wx (forM ρ' t m (ds.drop i)) σ' W0 μ' H0 (EndAt X.w ca H0 N)
  refine ⟨fun i q σ' H' => q = ds.length - i ∧ i ≤ ds.length ∧ Mid i σ' H', ⟨ds.length, rfl, Nat.zero_le _, W1, ρ, μ1, g1, r.fr f1, f.trans f1, o, Wd.le.refl W1, h1⟩, ?_⟩
  rintro i q σ' H' ⟨rfl, hi, W', ρ', μ', g', r', f', o', le, hw'⟩
  by_cases hlt : i < ds.length
  · refine .inr ⟨((hJ i W' μ' H' g' le).1 _ (List.getElem?_eq_getElem hlt)).1, Mid (i + 1), fun σ2 H2 h => ⟨ds.length - (i + 1), by omega, rfl, by omega, h⟩, fun x H'' hy => ?_⟩
    obtain ⟨W2, g2, f2, rx⟩ := ((hJ i W' μ' H' g' le).1 _ (List.getElem?_eq_getElem hlt)).2 x H'' hy
    rw [List.drop_eq_getElem_cons hlt] at hw'
    obtain ⟨ρ2, ea, h2⟩ := some_wpB hw'
    have f02 := f'.trans f2
    refine g_readS g2 (r'.fr f2) o' rx ea fun σ2 r2 o2 => ⟨W2, H0, W2, ρ2, μ', g2, r2, f02.rebase, o2, (((h2.bindB (Mp.Fr.refl W0 H0)).slot y).rebase f02).imp fun W3 μ3 H3 ou g3 f3 h3 => ?_⟩
    cases ou with
    | next ρ3 => exact fun σ3 r3 o3 => ⟨W3, ρ3, μ3, g3, r3, f02.unbase f3, o3, le.trans (f2.le.trans f3.le), h3.slot y⟩
    | cont ρ3 => exact fun σ3 r3 o3 => ⟨W3, ρ3, μ3, g3, r3, f02.unbase f3, o3, le.trans (f2.le.trans f3.le), h3.slot y⟩
    | brk ρ3 => exact fun σ3 r3 o3 => h3 W3 H3 g3 (f02.unbase f3) σ3 r3 o3
    | ret d => exact h3 W3 H3 g3 (f02.unbase f3)
  · have e : i = ds.length := by omega
    subst e
    rw [List.drop_length] at hw'
    exact .inl ⟨(hJ _ W' μ' H' g' le).2 (Nat.le_refl _), hw' W' H' g' f' σ' r' o'⟩
theorem St1.while_ {fuel : Nat} (y : Cy X Wx) (hc : Sd ca Wx X c nc) (hb : Sts ca Wx X body m) : St1 ca Wx X (.While c body [] pos) (Dm.while_ fuel nc m) := by
  refine ⟨PS.of (ps_while y.po hc.t hb.ps) fun N σ H ⟨W0, H0, W, ρ, μ, g, r, f, o, hw⟩ => ?_⟩
  refine ⟨fun q σ' H' => ∃ W' ρ' μ', GS X.w ca W' μ' H' ∧ SR X.w ca W' H' σ' ρ' ∧ Fr W0 H0 W' H' ∧ OwnNew H0 σ' ρ' ∧ Wp X.w ca Wx (whileM nc.t m q ρ') σ' W0 μ' H0 (EndAt X.w ca H0 N), ⟨fuel, W, ρ, μ, g, r, f, o, hw⟩, ?_⟩
  rintro q σ' H' ⟨W', ρ', μ', g', r', f', o', hw'⟩
  cases q with
  | zero => exact (Wp.bad hw').elim
  | succ q =>
    have hw' : Wp X.w ca Wx (nc.t ρ' >>= fun k => if k then (m ρ' >>= fun o => match o with
      | .next ρ2 => whileM nc.t m q ρ2
      | .cont ρ2 => whileM nc.t m q ρ2
      | .brk ρ2 => M.ret (.next ρ2)
      | .ret d => M.ret (.ret d)) else M.ret (.next ρ')) σ' W0 μ' H0 (EndAt X.w ca H0 N) := hw'
    refine ⟨W', ρ', μ', g', r', (hw'.bindB f').imp fun W1 μ1 H1 k g1 f1 h1 k' e => ?_⟩
    subst e
    have f2 := f'.trans f1
    cases k' with
    | false =>
      rw [if_neg Bool.false_ne_true] at h1 ⊢
      exact h1 W1 H1 g1 f2 σ' (r'.fr f1) o'
    | true =>
      rw [if_pos rfl] at h1 ⊢
      refine ⟨fun σ2 H2 => ∃ W2 ρ2 μ2, GS X.w ca W2 μ2 H2 ∧ SR X.w ca W2 H2 σ2 ρ2 ∧ Fr W0 H0 W2 H2 ∧ OwnNew H0 σ2 ρ2 ∧ Wp X.w ca Wx (whileM nc.t m q ρ2) σ2 W0 μ2 H0 (EndAt X.w ca H0 N), fun σ2 H2 h => ⟨q, Nat.lt_succ_self q, h⟩, W0, H0, W1, ρ', μ1, g1, r'.fr f1, f2, o', (h1.bindB (Mp.Fr.refl W0 H0)).imp fun W3 μ3 H3 ou g3 f3 h3 => ?_⟩
      cases ou with
      | next ρ3 => exact fun σ3 r3 o3 => ⟨W3, ρ3, μ3, g3, r3, f3, o3, h3.slot y⟩
      | cont ρ3 => exact fun σ3 r3 o3 => ⟨W3, ρ3, μ3, g3, r3, f3, o3, h3.slot y⟩
      | brk ρ3 => exact fun σ3 r3 o3 => h3 W3 H3 g3 f3 σ3 r3 o3
      | ret d => exact h3 W3 H3 g3 f3
end
end Mp

/-! Stores (own work). -/
namespace Mp
open PySem PySem.Spec PyProof.Rows L2

section
variable {ca : CA} {Wx : WX} {X : Cx} {st : Stmt} {sts body els : List Stmt} {m k : Sm} {e a b c o : Expr} {n na nb nc no : Den} {pos tpos p apos cpos : Pos}
theorem SR.updOwn {w : World} {W : Wd} {H : Hp} {σ : L2.St} {ρ : Rho} {i : Nat} {d d' : D} {a : Addr} {ob : HO} (r : SR w ca W H σ ρ) (h1 : ρ[i]? = some (some (.own d))) (h2 : σ[i]? = some (some (.ref a))) (s : W.S a = none) (m : a ∉ W.ι) (h : At w ca W (upd H a ob) a d') : SR w ca W (upd H a ob) σ (ρ.set i (some (.own d'))) := by
  have hl := (List.getElem?_eq_some_iff.mp h1).1
  refine ⟨by rw [List.length_set]; exact r.len, fun j o' e => ?_, fun j k d1 d2 u e1 e2 e3 e4 => ?_⟩
  · by_cases z : i = j
    · subst z
      rw [List.getElem?_set_self hl] at e
      cases e
      exact ⟨.ref a, h2, a, rfl, s, m, h⟩
    · rw [List.getElem?_set_ne z] at e
      obtain ⟨v, q1, q2⟩ := r.at_ j o' e
      refine ⟨v, q1, ?_⟩
      cases o' with
      | dat x => exact q2
      | own x =>
        obtain ⟨b, rfl, sb, mb, hb⟩ := q2
        have nb : b ≠ a := fun q => by
          subst q
          exact z (r.apart i j d x (.ref b) h1 e h2 q1)
        exact ⟨b, rfl, sb, mb, At.mono (Wd.le.refl W) (fun u q => by rw [upd_ne nb]; exact q) _ hb⟩
  · have un : ∀ {j : Nat} {x : D}, (ρ.set i (some (.own d')))[j]? = some (some (.own x)) → ∃ x', ρ[j]? = some (some (.own x')) := fun {j x} e => by
      by_cases z : i = j
      · subst z; exact ⟨d, h1⟩
      · rw [List.getElem?_set_ne z] at e; exact ⟨x, e⟩
    obtain ⟨x1, y1⟩ := un e1
    obtain ⟨x2, y2⟩ := un e2
    exact r.apart j k x1 x2 u y1 y2 e3 e4
theorem OwnNew.upd {H0 : Hp} {σ : L2.St} {ρ : Rho} {i : Nat} {d d' : D} (o : OwnNew H0 σ ρ) (h1 : ρ[i]? = some (some (.own d))) : OwnNew H0 σ (ρ.set i (some (.own d'))) := fun j x a e1 e2 => by
  by_cases z : i = j
  · subst z; exact o i d a h1 e2
  · rw [List.getElem?_set_ne z] at e1; exact o j x a e1 e2
/-- the thing at a reference is changed -/
theorem change_at {w : World} {N : Ends} {W0 W : Wd} {μ : Mu} {H0 H : Hp} {σ : L2.St} {ρ : Rho} {q : Q} {v : V} {F : D → Option D} (g : GS w ca W μ H) (r : SR w ca W H σ ρ) (f : Fr W0 H0 W H) (o : OwnNew H0 σ ρ) (rq : RepQ w ca W H σ ρ q v)
    (h : Wp w ca Wx (change ρ F q >>= fun ρ' => M.ret (.next ρ')) σ W0 μ H0 (EndAt w ca H0 N)) : ∃ a d d', v = .ref a ∧ At w ca W H a d ∧ F d = some d' ∧ ∀ ob, At w ca W (upd H a ob) a d' → N.nx σ (upd H a ob) := by
  cases q with
  | slot i =>
    have h : Wp w ca Wx ((match ρ[i]? with
      | some (some (.own d)) => (match F d with
        | some d' => M.ret (ρ.set i (some (.own d')))
        | none => M.bad)
      | _ => M.bad) >>= fun ρ' => M.ret (.next ρ')) σ W0 μ H0 (EndAt w ca H0 N) := h
    cases e : ρ[i]? with
    | none => rw [e] at h; exact (Wp.bad (α := Out) h).elim
    | some x => cases x with
      | none => rw [e] at h; exact (Wp.bad (α := Out) h).elim
      | some x => cases x with
        | dat d => rw [e] at h; exact (Wp.bad (α := Out) h).elim
        | own d =>
          rw [e] at h
          cases ef : F d with
          | none =>
            simp only [ef] at h
            exact (Wp.bad (α := Out) h).elim
          | some d' =>
            simp only [ef] at h
            obtain ⟨u, h1, a, rfl, s, m, hA⟩ := r.at_ i _ e
            have rq : σ[i]? = some (some v) := rq
            rw [rq] at h1
            cases h1
            refine ⟨a, d, d', rfl, hA, ef, fun ob hb => ?_⟩
            exact h W (upd H a ob) (g.other s m fun ps e => hA.notTbl e) (f.upd0 (o i d a e rq)) σ (r.updOwn e rq s m hb) (o.upd e)
  | val x =>
    cases x with
    | loc n =>
      obtain ⟨a, rfl, ix⟩ := rq
      have h : Wp w ca Wx ((fun μ => (match μ[n]? with
        | some (some d) => (match F d with
          | some d' => Res.ok ρ (μ.set n (some d'))
          | none => .bad)
        | _ => .bad) : M Rho) >>= fun ρ' => M.ret (.next ρ')) σ W0 μ H0 (EndAt w ca H0 N) := h
      cases e : μ[n]? with
      | none =>
        have : (((fun μ => (match μ[n]? with
        | some (some d) => (match F d with
          | some d' => Res.ok ρ (μ.set n (some d'))
          | none => .bad)
        | _ => .bad) : M Rho) >>= fun ρ' => M.ret (Out.next ρ')) μ) = .bad := by
          show Res.bind (match μ[n]? with
        | some (some d) => (match F d with
          | some d' => Res.ok ρ (μ.set n (some d'))
          | none => .bad)
        | _ => .bad) _ = _
          rw [e]
          rfl
        unfold Wp at h
        rw [this] at h
        exact h.elim
      | some x =>
        cases x with
        | none =>
          have : (((fun μ => (match μ[n]? with
        | some (some d) => (match F d with
          | some d' => Res.ok ρ (μ.set n (some d'))
          | none => .bad)
        | _ => .bad) : M Rho) >>= fun ρ' => M.ret (Out.next ρ')) μ) = .bad := by
            show Res.bind (match μ[n]? with
        | some (some d) => (match F d with
          | some d' => Res.ok ρ (μ.set n (some d'))
          | none => .bad)
        | _ => .bad) _ = _
            rw [e]
            rfl
          unfold Wp at h
          rw [this] at h
          exact h.elim
        | some d =>
          cases ef : F d with
          | none =>
            have : (((fun μ => (match μ[n]? with
        | some (some d) => (match F d with
          | some d' => Res.ok ρ (μ.set n (some d'))
          | none => .bad)
        | _ => .bad) : M Rho) >>= fun ρ' => M.ret (Out.next ρ')) μ) = .bad := by
              show Res.bind (match μ[n]? with
        | some (some d) => (match F d with
          | some d' => Res.ok ρ (μ.set n (some d'))
          | none => .bad)
        | _ => .bad) _ = _
              rw [e]
              simp only [ef]
              rfl
            unfold Wp at h
            rw [this] at h
            exact h.elim
          | some d' =>
            have : (((fun μ => (match μ[n]? with
        | some (some d) => (match F d with
          | some d' => Res.ok ρ (μ.set n (some d'))
          | none => .bad)
        | _ => .bad) : M Rho) >>= fun ρ' => M.ret (Out.next ρ')) μ) = .ok (.next ρ) (μ.set n (some d')) := by
              show Res.bind (match μ[n]? with
        | some (some d) => (match F d with
          | some d' => Res.ok ρ (μ.set n (some d'))
          | none => .bad)
        | _ => .bad) _ = _
              rw [e]
              simp only [ef]
              rfl
            unfold Wp at h
            rw [this] at h
            refine ⟨a, d, d', rfl, (g.lv n d a e ix).2, ef, fun ob hb => ?_⟩
            exact h W (upd H a ob) (g.write e ix hb) (f.trans (Mp.Fr.write ix)) σ (r.fr (Mp.Fr.write ix)) o
    | _ => exact (Wp.bad (α := Out) h).elim
/-- o[k] = v, by contents -/
def tSetI (w : World) (ca : CA) : TSet := fun x i v H R => ∃ W μ ad c k d c', x = .ref ad ∧ GS w ca W μ H ∧ At w ca W H ad c ∧ Rep w ca W k i ∧ Rep w ca W d v ∧ setIn k d c = some c' ∧ ∀ ob, At w ca W (upd H ad ob) ad c' → R (upd H ad ob)
theorem Reps.set {w : World} {W : Wd} {d : D} {v : V} (rd : Rep w ca W d v) : ∀ {l : List D} {vs : List V} (j : Nat), Reps w ca W l vs → Reps w ca W (l.set j d) (vs.set j v)
  | [], _, j, r => by have r : _ = [] := r; subst r; exact rfl
  | x :: l, _, 0, r => by
    obtain ⟨u, q, rfl, a, b⟩ := r
    exact ⟨v, q, rfl, rd, b⟩
  | x :: l, _, j + 1, r => by
    obtain ⟨u, q, rfl, a, b⟩ := r
    exact ⟨u, _, rfl, a, Reps.set rd j b⟩
theorem set_any (hu : X.A.units + 16 < cLine) : PSet X (tSetI X.w ca) := by
  intro pins s σ H x i v ov iv u R I rx ri rv h
  obtain ⟨W, μ, ad, c, k, d, c', rfl, g, hc, hk, hd, hs, hR⟩ := h
  cases c <;> first | (simp only [setIn] at hs; cases hs; done) | skip
  case lst l =>
    cases k <;> first | (simp only [setIn] at hs; cases hs; done) | skip
    rename_i j
    obtain ⟨vs, ea, rl⟩ := hc
    cases hk
    have hs : (ixM l.length j).map (fun j => D.lst (l.set j d)) = some c' := hs
    cases ej : ixM l.length j with
    | none => rw [ej] at hs; cases hs
    | some q =>
      rw [ej] at hs
      cases hs
      exact set_list pins s σ H _ _ v ov iv u R I rx ri rv ⟨ad, vs, j, q, rfl, rfl, ea, by rw [rl.length]; exact ej, hR _ ⟨_, upd_same, Reps.set hd q rl⟩⟩
  case dct kk l =>
    simp only [setIn] at hs
    split at hs
    · rename_i hz
      cases hs
      cases rx
      exact dct_set hu I g hc hz.1 hk ri hd rv hz.2 fun ob s' I' hA => ⟨_, I', hR ob hA⟩
    · cases hs
theorem St1.setI (y : Cy X Wx) (ho : Sd ca Wx X o no) (ha : Sd ca Wx X a na) (hv : Sd ca Wx X e n) (hs : swapsWithSole [.Subscript o a tpos] e pos.line X.env = pure false := by rfl) (hw : swappedStores [.Subscript o a tpos] e X.env = pure none := by rfl)
    (h1 : (assignEach [.Subscript o a tpos] X.env).map (·.2) = [PySem.assign (.Subscript o a tpos) X.env] := by rfl)
    (has : ∀ v, PySem.assign (.Subscript o a tpos) X.env v = (do
      let ov ← holding [v] (eval o X.env)
      let iv ← holding [v, ov] (eval a X.env)
      standAt tpos
      holding [v, ov, iv] (setItem ov iv v)
      release [v, ov, iv] []) := by intro _; rfl) : St1 ca Wx X (.Assign [.Subscript o a tpos] e pos) (Dm.setI no na n) := by
  refine ⟨PS.of (ps_asg hv.v (pg_sub ho.q ha.v (set_any (ca := ca) y.u16) has) hs hw h1) fun N σ H ⟨W0, H0, W, ρ, μ, g, r, f, ow, hw⟩ => ?_⟩
  have hw : Wp X.w ca Wx (n.v ρ >>= fun yv => no.q ρ >>= fun x => na.v ρ >>= fun z => change ρ (setIn z yv) x >>= fun ρ' => M.ret (.next ρ')) σ W0 μ H0 (EndAt X.w ca H0 N) := hw
  refine ⟨W, ρ, μ, g, r, (hw.bindB f).imp fun W1 μ1 H1 d g1 f1 h1 v rv => ⟨W1, ρ, μ1, g1, r.fr f1, (h1.bindB (f.trans f1)).imp fun W2 μ2 H2 q g2 f2 h2 u ru => ⟨W2, ρ, μ2, g2, r.fr (f1.trans f2), (h2.bindB ((f.trans f1).trans f2)).imp fun W3 μ3 H3 z g3 f3 h3 t rt => ?_⟩⟩⟩
  obtain ⟨ad, c, c', rfl, hA, ef, fin⟩ := change_at g3 (r.fr ((f1.trans f2).trans f3)) (((f.trans f1).trans f2).trans f3) ow (ru.fr f3) h3
  exact ⟨W3, μ3, ad, c, z, d, c', rfl, g3, hA, rt, Rep.mono (f2.trans f3).le d v rv, ef, fin⟩
end
end Mp

/-! Fields stored, append, extend, things that stand still (own work). -/
namespace Mp
open PySem PySem.Spec PyProof.Rows L2

section
variable {ca : CA} {Wx : WX} {X : Cx} {st : Stmt} {sts body els : List Stmt} {m k : Sm} {e a b c o : Expr} {n na nb nc no : Den} {pos tpos p apos cpos : Pos}
theorem RepF.put {w : World} {W : Wd} {f : String} {d : D} {v : V} (rd : Rep w ca W d v) : ∀ {l : List (String × D)} {fs : List (Str × V)}, RepF w ca W l fs → RepF w ca W (putS l f d) (L2.putF (Str.ofString f) v fs)
  | [], _, r => by have r : _ = [] := r; subst r; exact ⟨v, [], rfl, rd, rfl⟩
  | (g, x) :: l, _, r => by
    obtain ⟨u, q, rfl, a, b⟩ := r
    unfold putS L2.putF
    by_cases z : g = f
    · subst z
      rw [if_pos rfl, if_pos rfl]
      exact ⟨v, q, rfl, rd, b⟩
    · rw [if_neg z, if_neg (fun h => z (ofString_inj h))]
      exact ⟨u, _, rfl, a, RepF.put rd b⟩
theorem RepF.length {w : World} {W : Wd} : ∀ {l : List (String × D)} {fs : List (Str × V)}, RepF w ca W l fs → fs.length = l.length
  | [], _, r => by have r : _ = [] := r; subst r; rfl
  | p :: l, _, r => by
    obtain ⟨u, q, rfl, a, b⟩ := r
    simp [RepF.length b]
theorem St1.setA {cl f : String} (ho : Sd ca Wx X o no) (hv : Sd ca Wx X e n) (hc : Cls X.K (ca cl)) (hn : NoAttr X.K (ca cl) (Str.ofString f)) (hs : swapsWith e (some (.Attribute o (Str.ofString f) tpos)) pos.line X.env = pure false := by rfl) :
    St1 ca Wx X (.Assign [.Attribute o (Str.ofString f) tpos] e pos) (Dm.setA cl no f n) := by
  refine ⟨PS.of (ps_fld ho.v hv.v hs) fun N σ H ⟨W0, H0, W, ρ, μ, g, r, fr, ow, hw⟩ => ?_⟩
  have hw : Wp X.w ca Wx (n.v ρ >>= fun y => no.v ρ >>= fun x => setAMu cl f y x >>= fun _ => M.ret (.next ρ)) σ W0 μ H0 (EndAt X.w ca H0 N) := hw
  refine ⟨W, ρ, μ, g, r, (hw.bindB fr).imp fun W1 μ1 H1 d g1 f1 h1 v rv => ⟨W1, ρ, μ1, g1, r.fr f1, (h1.bindB (fr.trans f1)).imp fun W2 μ2 H2 x g2 f2 h2 u ru => ?_⟩⟩
  cases x with
  | loc i =>
    obtain ⟨ad, rfl, ix⟩ := ru
    unfold Wp at h2
    have e0 : (setAMu cl f d (.loc i) >>= fun _ => M.ret (Out.next ρ)) μ2 = (match μ2[i]? with
      | some (some (.obj k l)) => if k = cl ∧ l.length < 900 then Res.ok (Out.next ρ) (μ2.set i (some (.obj k (putS l f d)))) else .bad
      | _ => .bad) := by
      show Res.bind (match μ2[i]? with
        | some (some (.obj k l)) => if k = cl ∧ l.length < 900 then .ok () (μ2.set i (some (.obj k (putS l f d)))) else .bad
        | _ => .bad) _ = _
      cases μ2[i]? with
      | none => rfl
      | some z => cases z with
        | none => rfl
        | some z => cases z <;> first | rfl | skip
                    rename_i k l
                    show Res.bind (if k = cl ∧ l.length < 900 then Res.ok () (μ2.set i (some (.obj k (putS l f d)))) else .bad) _ = if k = cl ∧ l.length < 900 then Res.ok (Out.next ρ) (μ2.set i (some (.obj k (putS l f d)))) else .bad
                    split <;> rfl
    rw [e0] at h2
    cases em : μ2[i]? with
    | none => rw [em] at h2; exact h2.elim
    | some z => cases z with
      | none => rw [em] at h2; exact h2.elim
      | some z => cases z <;> first | (rw [em] at h2; exact h2.elim) | skip
                  rename_i k l
                  rw [em] at h2
                  by_cases hk : k = cl ∧ l.length < 900
                  · simp only [if_pos hk] at h2
                    obtain ⟨rfl, hl⟩ := hk
                    obtain ⟨s, dx, fs, ea, rf⟩ := g2.lv i _ ad em ix
                    refine ⟨ad, _, dx, fs, rfl, ea, hc, hn, by rw [rf.length]; omega, ?_⟩
                    have fw := Mp.Fr.write (W := W2) (H := H2) (o := .ins (ca k) dx (L2.putF (Str.ofString f) v fs)) ix
                    exact h2 W2 _ (g2.write em ix ⟨dx, _, upd_same, rf.put (Rep.mono f2.le d v rv)⟩) (((fr.trans f1).trans f2).trans fw) σ (((r.fr f1).fr f2).fr fw) ow
                  · simp only [if_neg hk] at h2
  | _ => exact (Wp.bad (α := Out) h2).elim

theorem ownL_wp {α : Type} {w : World} {σ : L2.St} {W0 : Wd} {μ : Mu} {H0 : Hp} {ρ : Rho} {i : Nat} {f : List D → M α} {P : Wd → Mu → Hp → α → Prop} (h : Wp w ca Wx (ownL ρ i f) σ W0 μ H0 P) : ∃ l, ρ[i]? = some (some (.own (.lst l))) ∧ Wp w ca Wx (f l) σ W0 μ H0 P := by
  unfold ownL at h
  split at h
  · rename_i l e
    exact ⟨l, e, h⟩
  · exact (Wp.bad (α := α) h).elim
/-! ### l.append(x), l.extend(x), l of the def's own -/
theorem St1.app {i : Nat} {x : Str} (hN : X.N[i]? = some x) (hv : Vis X.env.scope x) (ha : Sd ca Wx X a na) (hd : (x == ("__debug__" : Str)) = false := by decide) (hcd : (x == ("__classdict__" : Str)) = false := by decide)
    (hbase : attributeBase (.Name x p) "append" X.env (eval (.Name x p) X.env) = eval (.Name x p) X.env := by rfl)
    (hfew : ((backTo cpos (starEach (a :: []) X.env)).all (fun x => !x.1) && (backToKw cpos (keywordEach [] X.env)).all (fun x => x.1.isSome)
      && decide ((a :: []).length + ([] : List Keyword).length + (if ([] : List Keyword).isEmpty then 0 else 1) < 30)) = true := by rfl)
    (hline : (apos.endLine == cpos.line) = true := by rfl) (hst : starEach (a :: []) X.env = (false, eval a X.env) :: starEach [] X.env := by rfl) (hs : swapsWith (.Call (.Attribute (.Name x p) "append" apos) [a] [] cpos) none pos.line X.env = pure false := by rfl) :
    St1 ca Wx X (.Expr (.Call (.Attribute (.Name x p) "append" apos) [a] [] cpos) pos) (Dm.app i na) := by
  refine ⟨PS.of (ps_expr (pe_bm PySem.F.plainAttrs_list PySem.F.slot_list_append PySem.F.type_list_append mt_append (pe_var hN hv hd hcd) (pa_cons ha.v pa_nil hst) hbase hfew hline hst) hs) fun N σ H ⟨W0, H0, W, ρ, μ, g, r, fr, ow, hw⟩ => ?_⟩
  obtain ⟨l, hl, hw⟩ := ownL_wp hw
  obtain ⟨v, hv1, ad, rfl, s0, i0, vs, e0, rl⟩ := r.at_ i _ hl
  have hw : Wp X.w ca Wx (na.v ρ >>= fun y => change ρ (appIn y) (.slot i) >>= fun ρ' => M.ret (.next ρ')) σ W0 μ H0 (EndAt X.w ca H0 N) := hw
  refine ⟨.ref ad, hv1, .inl ⟨rfl, vs, SqL.of e0⟩, W, ρ, μ, g, r, (hw.bindB fr).imp fun W1 μ1 H1 d g1 f1 h1 u ru => ?_⟩
  obtain ⟨ad2, c, c', ev, hA, ef, fin⟩ := change_at (q := .slot i) (v := .ref ad) g1 (r.fr f1) (fr.trans f1) ow hv1 h1
  cases ev
  cases c <;> first | (simp only [appIn] at ef; cases ef; done) | skip
  rename_i l2
  simp only [appIn] at ef
  split at ef
  · rename_i hz
    cases ef
    obtain ⟨vs2, e2, r2⟩ := hA
    exact ⟨ad, vs2, u, rfl, rfl, e2, by rw [r2.length, ← line_eq]; exact hz, fin _ ⟨_, upd_same, r2.append ⟨u, [], rfl, ru, rfl⟩⟩⟩
  · cases ef
theorem St1.ext {i : Nat} {x : Str} (hN : X.N[i]? = some x) (hv : Vis X.env.scope x) (ha : Sd ca Wx X a na) (hd : (x == ("__debug__" : Str)) = false := by decide) (hcd : (x == ("__classdict__" : Str)) = false := by decide)
    (hbase : attributeBase (.Name x p) "extend" X.env (eval (.Name x p) X.env) = eval (.Name x p) X.env := by rfl)
    (hfew : ((backTo cpos (starEach (a :: []) X.env)).all (fun x => !x.1) && (backToKw cpos (keywordEach [] X.env)).all (fun x => x.1.isSome)
      && decide ((a :: []).length + ([] : List Keyword).length + (if ([] : List Keyword).isEmpty then 0 else 1) < 30)) = true := by rfl)
    (hline : (apos.endLine == cpos.line) = true := by rfl) (hst : starEach (a :: []) X.env = (false, eval a X.env) :: starEach [] X.env := by rfl) (hs : swapsWith (.Call (.Attribute (.Name x p) "extend" apos) [a] [] cpos) none pos.line X.env = pure false := by rfl) :
    St1 ca Wx X (.Expr (.Call (.Attribute (.Name x p) "extend" apos) [a] [] cpos) pos) (Dm.ext i na) := by
  refine ⟨PS.of (ps_expr (pe_bm PySem.F.plainAttrs_list PySem.F.slot_list_extend PySem.F.type_list_extend mt_extend (pe_var hN hv hd hcd) (pa_cons ha.v pa_nil hst) hbase hfew hline hst) hs) fun N σ H ⟨W0, H0, W, ρ, μ, g, r, fr, ow, hw⟩ => ?_⟩
  obtain ⟨l, hl, hw⟩ := ownL_wp hw
  obtain ⟨v, hv1, ad, rfl, s0, i0, vs, e0, rl⟩ := r.at_ i _ hl
  have hw : Wp X.w ca Wx (na.v ρ >>= fun y => M.some? (lstOf y) >>= fun l => change ρ (extIn l) (.slot i) >>= fun ρ' => M.ret (.next ρ')) σ W0 μ H0 (EndAt X.w ca H0 N) := hw
  refine ⟨.ref ad, hv1, .inl ⟨rfl, vs, SqL.of e0⟩, W, ρ, μ, g, r, (hw.bindB fr).imp fun W1 μ1 H1 d g1 f1 h1 u ru => ?_⟩
  obtain ⟨m, em, h2⟩ := some_wpB h1
  cases d <;> first | (simp only [lstOf] at em; cases em; done) | skip
  cases em
  obtain ⟨b, us, rfl, eb, rb⟩ := ru
  obtain ⟨ad2, c, c', ev, hA, ef, fin⟩ := change_at (q := .slot i) (v := .ref ad) g1 (r.fr f1) (fr.trans f1) ow hv1 h2
  cases ev
  cases c <;> first | (simp only [extIn] at ef; cases ef; done) | skip
  simp only [extIn] at ef
  split at ef
  · rename_i hz
    cases ef
    obtain ⟨vs2, e2, r2⟩ := hA
    exact ⟨ad, b, vs2, us, rfl, rfl, e2, g1.sub _ _ eb, by rw [r2.length, rb.length, ← line_eq]; exact hz, fin _ ⟨_, upd_same, r2.append rb⟩⟩
  · cases ef
/-! ### a, b = x, y -/
theorem St1.par {i j : Nat} {x z : Str} {px py pt : Pos} {kt k2 : Nat} {pt2 : Pos} (y : Cy X Wx) (hi : X.N[i]? = some x) (hj : X.N[j]? = some z) (hij : i ≠ j) (hx : X.env.scope.names.lookup x = some .local) (hz : X.env.scope.names.lookup z = some .local) (ha : Sd ca Wx X a na) (hb : Sd ca Wx X b nb)
    (hw : swappedStores [.Tuple [.Name x px, .Name z py] kt pt] (.Tuple [a, b] k2 pt2) X.env = pure (some [x, z])) (hsa : isStar a = false) (hsb : isStar b = false)
    (hs : swapsWithSole [.Tuple [.Name x px, .Name z py] kt pt] (.Tuple [a, b] k2 pt2) pos.line X.env = pure false := by rfl) :
    St1 ca Wx X (.Assign [.Tuple [.Name x px, .Name z py] kt pt] (.Tuple [a, b] k2 pt2) pos) (Dm.asgs [i, j] [(false, na), (false, nb)]) := by
  refine ⟨PS.of (ps_par y.calm y.nd hi hj hij hx hz (SdL.pa (.cons ha hsa (.cons hb hsb .nil))) hw hs) fun N σ H ⟨W0, H0, W, ρ, μ, g, r, fr, ow, h⟩ => ?_⟩
  have h : Wp X.w ca Wx (evs ρ [(false, na), (false, nb)] >>= fun ds => M.some? (setAll ρ [i, j] ds) >>= fun ρ' => M.ret (.next ρ')) σ W0 μ H0 (EndAt X.w ca H0 N) := h
  refine ⟨W, ρ, μ, g, r, ((h.bindB fr).impE fun W1 μ1 H1 ds e g1 f1 h1 vs rv => ?_)⟩
  obtain ⟨ρ', e2, h2⟩ := some_wpB h1
  obtain ⟨sr, hl⟩ := (r.fr f1).setAll rv e2
  match vs, hl with
  | [v, u], hl =>
    exact ⟨v, u, rfl, h2 W1 H1 g1 (fr.trans f1) _ sr (ow.all hl e2)⟩
  | [], hl => simp at hl
  | [_], hl => simp at hl
  | _ :: _ :: _ :: _, hl => simp at hl
end
end Mp

/-! What is changed no more; name = [..] on one line (own work). -/
namespace Mp
open PySem PySem.Spec PyProof.Rows L2

section
variable {ca : CA} {Wx : WX} {X : Cx} {st : Stmt} {sts body els : List Stmt} {m k : Sm} {e a b c o : Expr} {n na nb nc no : Den} {pos tpos p apos cpos : Pos}
theorem Sd.loc (h : PE X e (TNew X.w ca Wx n.v)) (hp : plainT e = true) : Sd ca Wx X e (Dn.loc n) := by
  refine .ofV (PE.of h fun σ H K ⟨W, ρ, μ, g, r, hw⟩ => ⟨W, ρ, μ, g, r, hw.bind.imp fun W1 μ1 H1 d g1 f1 h1 q ob hq ha => ?_⟩) hp
  have g2 := g1.new hq (At.mono Wd.le_new (fun u e => e) _ ha)
  have go : ∀ {x : M D}, x μ1 = .ok (.loc μ1.length) (μ1 ++ [some d]) → Wp X.w ca Wx x σ W1 μ1 H1 (fun W' _ H' d => ∀ v, Rep X.w ca W' d v → K v H') → K (.ref q) (upd H1 q ob) := fun {x} ex hx => by
    unfold Wp at hx
    rw [ex] at hx
    exact hx _ _ g2 (Mp.Fr.new g1 hq) _ ⟨q, rfl, by show (W1.ι ++ [q])[μ1.length]? = some q; rw [← g1.len, List.getElem?_concat_length]⟩
  cases d with
  | lst l => exact go rfl h1
  | dct k l => exact go rfl h1
  | _ => exact (Wp.bad h1).elim
theorem Sd.frz (h : Sd ca Wx X e n) (hp : plainT e = true) : Sd ca Wx X e (Dn.frz n) := by
  refine .ofV (PE.of h.v fun σ H K ⟨W, ρ, μ, g, r, hw⟩ => ⟨W, ρ, μ, g, r, hw.bind.imp fun W1 μ1 H1 d g1 f1 h1 v rv => ?_⟩) hp
  cases d with
  | loc i =>
    obtain ⟨ad, rfl, ix⟩ := rv
    unfold Wp at h1
    have e0 : frzM (.loc i) μ1 = (match μ1[i]? with
      | some (some (.obj c l)) => .ok (.obj c l) (μ1.set i none)
      | _ => .bad) := rfl
    rw [e0] at h1
    cases em : μ1[i]? with
    | none => rw [em] at h1; exact h1.elim
    | some z => cases z with
      | none => rw [em] at h1; exact h1.elim
      | some z => cases z <;> first | (rw [em] at h1; exact h1.elim) | skip
                  rename_i k l
                  rw [em] at h1
                  obtain ⟨ob, _, g2, f2, r2⟩ := g1.freeze (fun l => D.noConfusion) em ix
                  exact h1 _ _ g2 f2 _ r2
  | _ => exact (Wp.bad h1).elim
/-- a thing of the def's own stands still from now on -/
theorem GS.addOld {w : World} {W : Wd} {μ : Mu} {H : Hp} (g : GS w ca W μ H) {p : Addr} {ob : HO} (hp : H p = some ob) (hs : W.S p = none) (hi : p ∉ W.ι) (nt : ∀ ps, ob ≠ .tbl ps) : GS w ca (W.add p ob) μ H := by
  refine ⟨fun a u e => ?_, g.len, g.nd, fun i d a e1 e2 => ?_, g.inh, g.tb.step (Wd.le_add hs).s fun a ps e s m => ⟨e, ?_, m⟩⟩
  · have e : upd W.S p ob a = some u := e
    by_cases z : a = p
    · subst z; rw [upd_same] at e; rw [hp, e]
    · rw [upd_ne z] at e; exact g.sub a u e
  · obtain ⟨s, q⟩ := g.lv i d a e1 e2
    have z : a ≠ p := fun z => hi (z ▸ List.mem_of_getElem? e2)
    refine ⟨?_, At.mono (Wd.le_add hs) (fun u e => e) d q⟩
    show upd W.S p ob a = none
    rw [upd_ne z]; exact s
  · have z : a ≠ p := fun z => by subst z; rw [hp] at e; exact nt ps (Option.some.inj e)
    show upd W.S p ob a = none
    rw [upd_ne z]; exact s
theorem Fr.addOld {W0 W : Wd} {H0 H : Hp} {p : Addr} {ob : HO} (f : Fr W0 H0 W H) (hs : W.S p = none) (h0 : H0 p = none) : Fr W0 H0 (W.add p ob) H :=
  ⟨f.le.trans (Wd.le_add hs), fun a u e s m => by
    obtain ⟨s1, m1, c⟩ := f.other a u e s m
    have z : a ≠ p := fun z => by subst z; rw [h0] at e; cases e
    refine ⟨?_, m1, c⟩
    show upd W.S p ob a = none
    rw [upd_ne z]; exact s1⟩
theorem SR.still {w : World} {W : Wd} {H : Hp} {σ : L2.St} {ρ : Rho} {i : Nat} {d : D} {p : Addr} {ob : HO} (r : SR w ca W H σ ρ) (h1 : ρ[i]? = some (some (.own d))) (h2 : σ[i]? = some (some (.ref p))) (hs : W.S p = none) (hr : Rep w ca (W.add p ob) d (.ref p)) : SR w ca (W.add p ob) H σ (ρ.set i (some (.dat d))) := by
  have hl := (List.getElem?_eq_some_iff.mp h1).1
  refine ⟨by rw [List.length_set]; exact r.len, fun j o' e => ?_, fun j k d1 d2 u e1 e2 e3 e4 => ?_⟩
  · by_cases z : i = j
    · subst z
      rw [List.getElem?_set_self hl] at e
      cases e
      exact ⟨.ref p, h2, hr⟩
    · rw [List.getElem?_set_ne z] at e
      obtain ⟨v, q1, q2⟩ := r.at_ j o' e
      refine ⟨v, q1, ?_⟩
      cases o' with
      | dat x => exact Rep.mono (Wd.le_add hs) _ _ q2
      | own x =>
        obtain ⟨b, rfl, sb, mb, hb⟩ := q2
        have nb : b ≠ p := fun q => by
          subst q
          exact z (r.apart i j d x (.ref b) h1 e h2 q1)
        refine ⟨b, rfl, ?_, mb, At.mono (Wd.le_add hs) (fun u q => q) _ hb⟩
        show upd W.S p ob b = none
        rw [upd_ne nb]; exact sb
  · have un : ∀ {j : Nat} {x : D}, (ρ.set i (some (.dat d)))[j]? = some (some (.own x)) → ρ[j]? = some (some (.own x)) := fun {j x} e => by
      by_cases z : i = j
      · subst z
        rw [List.getElem?_set_self hl] at e
        cases e
      · rw [List.getElem?_set_ne z] at e; exact e
    exact r.apart j k d1 d2 u (un e1) (un e2) e3 e4
theorem OwnNew.still {H0 : Hp} {σ : L2.St} {ρ : Rho} {i : Nat} {d : D} (o : OwnNew H0 σ ρ) : OwnNew H0 σ (ρ.set i (some (.dat d))) := fun j x a e1 e2 => by
  by_cases z : i = j
  · subst z
    have hl := (List.getElem?_eq_some_iff.mp e1).1
    rw [List.length_set] at hl
    rw [List.getElem?_set_self hl] at e1
    cases e1
  · rw [List.getElem?_set_ne z] at e1; exact o j x a e1 e2
theorem Sts.frz {i : Nat} (y : Cy X Wx) (t : Sts ca Wx X sts k) : Sts ca Wx X sts (Dm.cons (Dm.frz i) k) := by
  refine ⟨PSs.of t.ps fun N σ H ⟨W0, H0, W, ρ, μ, g, r, f, ow, hw⟩ => ?_⟩
  have hw : Wp X.w ca Wx (M.some? (frzSlot ρ i) >>= fun ρ' => k ρ') σ W0 μ H0 (EndAt X.w ca H0 N) := by
    have e : (Dm.cons (Dm.frz i) k ρ) = (M.some? (frzSlot ρ i) >>= fun ρ' => k ρ') := by
      funext μ
      show Res.bind (Res.bind (M.some? (frzSlot ρ i) μ) _) _ = Res.bind (M.some? (frzSlot ρ i) μ) _
      cases frzSlot ρ i <;> rfl
    rw [← e]
    exact hw
  obtain ⟨ρ', e, h2⟩ := some_wpB hw
  unfold frzSlot at e
  split at e
  · rename_i l e1
    cases e
    obtain ⟨v, q1, ad, rfl, s0, i0, vs, ea, ra⟩ := r.at_ i _ e1
    have hr : Rep X.w ca (W.add ad (.lst vs)) (.lst l) (.ref ad) := ⟨ad, vs, rfl, upd_same, Reps.mono (Wd.le_add s0) _ _ ra⟩
    exact ⟨W0, H0, _, _, μ, g.addOld ea s0 i0 (fun _ => HO.noConfusion), r.still e1 q1 s0 hr, f.addOld s0 (ow i _ ad e1 q1), ow.still, h2⟩
  · rename_i l e1
    cases e
    obtain ⟨v, q1, ad, rfl, s0, i0, o1, es, ep, ea, nd, rn⟩ := r.at_ i _ e1
    have hr : Rep X.w ca (W.add ad (rawO ad o1)) (.dct true l) (.ref ad) := ⟨ad, o1, es, ep, rfl, upd_same, nd, RepN.mono (Wd.le_add s0) _ _ rn⟩
    exact ⟨W0, H0, _, _, μ, g.addOld ea s0 i0 (fun _ e => by unfold rawO at e; cases e), r.still e1 q1 s0 hr, f.addOld s0 (ow i _ ad e1 q1), ow.still, h2⟩
  · cases e
end
end Mp

/-! name = [..] on one line; a field's dict stands still (own work). -/
namespace Mp
open PySem PySem.Spec PyProof.Rows L2

section
variable {ca : CA} {Wx : WX} {X : Cx} {st : Stmt} {sts body els : List Stmt} {m k : Sm} {e a b c o iter tg elt : Expr} {n na nb nc no : Den} {pos tpos p apos cpos spos py : Pos}
theorem St1.setLc {i : Nat} {z : Str} {scope : Scope} {own : List (Str × Nat)} {t : Tg} {ifs : List Expr} {nis : Dens} {it : Rho → M (List D)} (y : Cy X Wx) (hz : X.N[i]? = some z) (hzl : X.env.scope.names.lookup z = some .local)
    (hsw : swapsWith (.ListComp elt [⟨tg, iter, ifs, 0⟩] scope pos) (some (.Name z py)) spos.line X.env = pure true) (hi : PI X tg iter (TIt X.w ca Wx it)) (ok : BlkOk X.N X.env.scope scope own) (ht : ∀ i ∈ tgSlots t, i ∈ own.map (·.2))
    (hg : ∀ (s : Shared) (H : Hp) (C : Addr) (cl : List (Str × Addr)) (fp : List Addr), PG (X.blk s H scope (compEnvC scope cl C X.env) fp) tg (gOf X.K t))
    (hifs : ∀ (s : Shared) (H : Hp) (C : Addr) (cl : List (Str × Addr)) (fp : List Addr), SdIf ca WxF (X.blk s H scope (compEnvC scope cl C X.env) fp) ifs nis)
    (he : ∀ (s : Shared) (H : Hp) (C : Addr) (cl : List (Str × Addr)) (fp : List Addr), Sd ca WxF (X.blk s H scope (compEnvC scope cl C X.env) fp) elt n) (hs : ∀ x, foldedSetIterable iter X.env x = pure x := by intro _; rfl) :
    St1 ca Wx X (.Assign [.Name z py] (.ListComp elt [⟨tg, iter, ifs, 0⟩] scope pos) spos) (Dm.asg (.name i) (Dn.lc (own.map (·.2)) t it nis n)) := by
  refine ⟨PS.of (ps_setLc (tt := TB X.w ca WxF fun ρ => evIfs ρ nis) (te := TV X.w ca WxF n.v) y.calm y.nd hz hzl hsw hi ok hg (fun s H C cl fp => (hifs s H C cl fp).pts) (fun s H C cl fp => (he s H C cl fp).v) hs) fun N σ H ⟨W0, H0, W, ρ, μ, g, r, f, ow, hw⟩ => lc_read ht ⟨W, ρ, μ, g, r, ?_⟩⟩
  -- what the comprehension gives is a list
  have hv : ∀ {μ1 : Mu} {d : D}, (Dn.lc (own.map (·.2)) t it nis n).v ρ μ = .ok d μ1 → ∃ l, d = .lst l := fun {μ1 d} e => by
    have e : (it ρ >>= fun ds => sized ds >>= fun _ => compM (lcF (own.map (·.2)) t nis n ρ) ds >>= fun l => M.ret (D.lst l)) μ = .ok d μ1 := e
    obtain ⟨ds, μ2, _, e⟩ := bind_ok e
    have e : (sized ds >>= fun _ => compM (lcF (own.map (·.2)) t nis n ρ) ds >>= fun l => M.ret (D.lst l)) μ2 = .ok d μ1 := e
    obtain ⟨_, μ3, _, e⟩ := bind_ok e
    have e : (compM (lcF (own.map (·.2)) t nis n ρ) ds >>= fun l => M.ret (D.lst l)) μ3 = .ok d μ1 := e
    obtain ⟨l, μ4, _, e⟩ := bind_ok e
    cases e
    exact ⟨l, rfl⟩
  refine (hw.bindB f).impE fun W1 μ1 H1 d ed g1 f1 h1 q ob hq ha => ?_
  obtain ⟨l, rfl⟩ := hv ed
  obtain ⟨vs, e1, rl⟩ := ha
  rw [upd_same] at e1
  cases e1
  have sq := (g1.free hq).1
  have f2 := f1.trans (Mp.Fr.add (o := .lst vs) g1 hq)
  exact h1 _ _ (g1.add hq) (f.trans f2) _ ((r.fr f2).set ⟨q, vs, rfl, upd_same, Reps.mono (Wd.le_add sq) _ _ rl⟩) ow.same
theorem RepF.swap {w : World} {W : Wd} {f : String} {d d' : D} (h : ∀ v, Rep w ca W d v → Rep w ca W d' v) : ∀ {l : List (String × D)} {fs : List (Str × V)}, RepF w ca W l fs → l.lookup f = some d → RepF w ca W (putS l f d') fs
  | [], _, _, e => by simp at e
  | (g, x) :: l, _, r, e => by
    obtain ⟨u, q, rfl, a, b⟩ := r
    unfold putS
    by_cases z : g = f
    · subst z
      rw [List.lookup_cons_self] at e
      cases e
      rw [if_pos rfl]
      exact ⟨u, q, rfl, h u a, b⟩
    · rw [if_neg z]
      have e1 : (f == g) = false := by simpa using Ne.symm z
      rw [List.lookup, e1] at e
      exact ⟨u, q, rfl, a, RepF.swap h b e⟩
theorem Sts.frzF {i : Nat} {f : String} (t : Sts ca Wx X sts k) : Sts ca Wx X sts (Dm.cons (Dm.frzF i f) k) := by
  refine ⟨⟨fun pins s σ H N I ⟨W0, H0, W, ρ, μ, g, r, fr, ow, hw⟩ => ?_⟩⟩
  unfold Wp at hw
  have e0 : Dm.cons (Dm.frzF i f) k ρ μ = (match ρ[i]? with
    | some (some (.dat d)) => (match frzA f d μ with
      | some μ' => k ρ μ'
      | none => .bad)
    | _ => .bad) := by
    show Res.bind (match ρ[i]? with
    | some (some (.dat d)) => (match frzA f d μ with
      | some μ' => Res.ok (Out.next ρ) μ'
      | none => .bad)
    | _ => .bad) _ = _
    split
    · split <;> rfl
    · rfl
  split at e0
  · rename_i d e1
    split at e0
    · rename_i μ' e2
      rw [e0] at hw
      -- the object at n, its field's dict at j
      cases d <;> first | (cases e2; done) | skip
      rename_i n
      have e2 : (match μ[n]? with
        | some (some (.obj c l)) => (match l.lookup f with
          | some (.loc m) => (match (μ[m]? : Option (Option D)) with
            | some (some (.dct false d)) => if m = n then none else some ((μ.set m none).set n (some (.obj c (putS l f (.dct false d)))))
            | _ => none)
          | _ => none)
        | _ => none) = some μ' := e2
      split at e2
      · rename_i c l em
        split at e2
        · rename_i j el
          split at e2
          · rename_i dd ej
            split at e2
            · cases e2
            · rename_i hne
              cases e2
              obtain ⟨v, q1, ad, rfl, ix⟩ := r.at_ i _ e1
              obtain ⟨sa, dx, fs, ea, rf⟩ := g.lv n _ ad em ix
              obtain ⟨vj, hj1, hj2⟩ := rf.look el
              obtain ⟨b, rfl, ib⟩ := hj2
              obtain ⟨kvs, eb, fz⟩ := g.freezeD ej ib
              obtain ⟨od, I2⟩ := I.lock eb True.intro
              obtain ⟨g2, f2, r2⟩ := fz od
              have nab : ad ≠ b := fun z => by
                subst z
                rw [ea] at eb
                cases eb
              have em2 : (μ.set j none)[n]? = some (some (.obj c l)) := by rw [List.getElem?_set_ne hne]; exact em
              have ix2 : (W.add b (.frz od (.dK kvs))).ι[n]? = some ad := ix
              have ea2 : upd H b (.frz od (.dK kvs)) ad = some (.ins (ca c) dx fs) := by rw [upd_ne nab]; exact ea
              have rf2 : RepF X.w ca (W.add b (.frz od (.dK kvs))) (putS l f (.dct false dd)) fs := by
                have rfm := RepF.mono f2.le l fs rf
                refine RepF.swap (d := .loc j) (fun v hv => ?_) rfm el
                obtain ⟨b', rfl, ib'⟩ := hv
                have ib2 : (W.add b (.frz od (.dK kvs))).ι[j]? = some b := ib
                rw [ib2] at ib'
                cases ib'
                exact r2
              have g3 := g2.write (o := .ins (ca c) dx fs) (d := .obj c (putS l f (.dct false dd))) em2 ix2 ⟨dx, fs, by rw [upd_same], rf2⟩
              rw [upd_id ea2] at g3
              exact t.ps.run pins s σ _ N I2 ⟨W0, H0, _, ρ, _, g3, r.fr f2, fr.trans f2, ow, by unfold Wp; exact hw⟩
          · cases e2
        · cases e2
      · cases e2
    · rw [e0] at hw
      exact hw.elim
  · rw [e0] at hw
    exact hw.elim
end
end Mp

/-! Defs (own work). -/
namespace Mp
open PySem PySem.Spec PyProof.Rows L2

section
variable {w : World} {ca : CA}
theorem SR.start {W : Wd} {H : Hp} {N : List Str} {ds : List D} {vs : List V} (r : Reps w ca W ds vs) : SR w ca W H (L2.start N vs) (Mp.start N.length ds) := by
  have hl := r.length
  have old : ∀ {i : Nat} {o : O}, (Mp.start N.length ds)[i]? = some (some o) → ∃ d, ds[i]? = some d ∧ o = .dat d := fun {i o} e => by
    unfold Mp.start at e
    by_cases z : i < ds.length
    · rw [List.getElem?_append_left (by simpa using z), List.getElem?_map] at e
      obtain ⟨d, hd, e⟩ := Option.map_eq_some_iff.mp e
      cases e
      exact ⟨d, hd, rfl⟩
    · rw [List.getElem?_append_right (by simpa using z), List.getElem?_replicate] at e
      split at e <;> cases e
  refine ⟨by unfold L2.start Mp.start; simp [hl], fun i o e => ?_, fun i j d e v h1 h2 h3 h4 => ?_⟩
  · obtain ⟨d, hd, rfl⟩ := old e
    obtain ⟨v, hv, rv⟩ := r.get hd
    refine ⟨v, ?_, rv⟩
    unfold L2.start
    have z := (List.getElem?_eq_some_iff.mp hv).1
    rw [List.getElem?_append_left (by simpa using z), List.getElem?_map, hv]
    rfl
  · obtain ⟨_, _, z⟩ := old h1
    cases z
theorem OwnNew.start {H0 : Hp} {N : List Str} {ds : List D} {σ : L2.St} : OwnNew H0 σ (Mp.start N.length ds) := fun i d a e _ => by
  unfold Mp.start at e
  by_cases z : i < ds.length
  · rw [List.getElem?_append_left (by simpa using z), List.getElem?_map] at e
    obtain ⟨d, hd, e⟩ := Option.map_eq_some_iff.mp e
    cases e
  · rw [List.getElem?_append_right (by simpa using z), List.getElem?_replicate] at e
    split at e <;> cases e
/-- a def's body, from its arguments -/
theorem body_read {Wx : WX} {N : List Str} {n : Nat} {m : Sm} {vs : List V} {H : Hp} {Q : VK} {W : Wd} {μ : Mu} {ds : List D} (g : GS w ca W μ H) (r : Reps w ca W ds vs) (hs : ∀ σ σ' c d H, Wx c d σ H → Wx c d σ' H) (h : Wp w ca Wx (fnOf n N.length m ds) [] W μ H fun W' _ H' d => ∀ v, Rep w ca W' d v → Q v H') :
    TSt w ca Wx m { nx := fun _ H' => Q .non H', rt := Q } (L2.start N vs) H := by
  unfold fnOf at h
  split at h
  · refine ⟨W, H, W, Mp.start N.length ds, μ, g, SR.start r, Mp.Fr.refl W H, OwnNew.start, ?_⟩
    have h : Wp w ca Wx (m (Mp.start N.length ds)) (L2.start N vs) W μ H fun W1 μ1 H1 o => Wp w ca Wx (retOf o) [] W1 μ1 H1 fun W' _ H' d => ∀ v, Rep w ca W' d v → Q v H' := by
      have h := h.bind
      unfold Wp at h ⊢
      cases e : m (Mp.start N.length ds) μ with
      | ok a μ' => rw [e] at h; exact h
      | exc x μ' => rw [e] at h; exact fun W' H' c d g' f' xr => hs _ _ _ _ _ (h W' H' c d g' f' xr)
      | bad => rw [e] at h; exact h
    refine h.imp fun W1 μ1 H1 o g1 f1 h1 => ?_
    cases o with
    | next ρ => exact fun _ _ _ => h1.ret g1 .non rfl
    | ret d => exact h1.ret g1
    | brk ρ => exact (Wp.bad h1).elim
    | cont ρ => exact (Wp.bad h1).elim
  · exact (Wp.bad h).elim
end
/-- what a def's body is walked under -/
theorem cy_of {P : Program} {w : World} {K : PySem.W.Frag} {mg : Str → Option Value} {base : Heap} {N : List Str} {qual : Str} {scope : Scope} {f : Addr} {cdv : Value} {A : Around} {outer : List Env} {s : Shared} {H : Hp} {E : XK} {k : Nat}
    (hr : Room k (cxOf (L2.CX P w) P w K mg base N qual scope f cdv A outer s H E).A) (nd : N.Nodup) : Cy (cxOf (L2.CX P w) P w K mg base N qual scope f cdv A outer s H E) (fun c d _ H => E c d H) :=
  ⟨L2.takes_of rfl rfl rfl rfl, ⟨E, rfl⟩, by have := hr.un; omega, rfl, nd, L2.passes_of rfl⟩
theorem FnM.of {P : Program} {w : World} {K : PySem.W.Frag} {mg : Str → Option Value} {base : Heap} {ca : CA} {x qual : Str} {params : Arguments} {body : List Stmt} {scope : Scope} {dvs : List V} {kws : List (Str × V)} {f : Addr} {fd : FuncData} {N ps : List Str} {k n sl : Nat} {m : Sm} {df : List D} {ds : List Value} {dv : List V}
    (F : FunD K x qual params body scope dvs kws f fd) (S : FnScope N ps scope) (hp : ps.length = n) (hsl : N.length = sl) (B : Binds K fd ps ds) (Vd : Vals dv ds) (R : ∀ W, Reps w ca W df dv)
    (hb : ∀ (cdv : Value) (A : Around) (outer : List Env) (s : Shared) (H : Hp) (E : XK), Room k (cxOf (L2.CX P w) P w K mg base N qual scope f cdv A outer s H E).A → Cy (cxOf (L2.CX P w) P w K mg base N qual scope f cdv A outer s H E) (fun c d _ H => E c d H) →
      Sts ca (fun c d _ H => E c d H) (cxOf (L2.CX P w) P w K mg base N qual scope f cdv A outer s H E) body m) : FnM P w K mg base ca (k + 1) f n df (fnOf n sl m) := by
  subst hp hsl
  refine ⟨⟨fd, ps, ds, dv, F.ok S (fun vs H Q E ⟨W, μ, d, g, r, hl, _⟩ => by rw [r.length, hl]) fun cdv A outer s H vs Q E hr ⟨W, μ, d, g, r, hl, h⟩ => ?_, B, Vd, R⟩, F.kp⟩
  exact ⟨_, (hb cdv A outer s H E hr (cy_of hr S.nd)).ps, body_read g r (fun _ _ _ _ _ z => z) h⟩
theorem FnM.mono {P : Program} {w : World} {K : PySem.W.Frag} {mg : Str → Option Value} {base : Heap} {ca : CA} {j k n : Nat} {f : Addr} {df : List D} {m : Fn} (F : FnM P w K mg base ca j f n df m) (h : j ≤ k) : FnM P w K mg base ca k f n df m := by
  obtain ⟨⟨fd, ps, ds, dv, F, B, Vd, R⟩, kp⟩ := F
  exact ⟨⟨fd, ps, ds, dv, F.mono h, B, Vd, R⟩, kp⟩
end Mp

/-! An own exception over Exception that holds one field, made, raised, caught, its field read
(own work; the lines follow the worked proof of the skeleton 42_own_error_by_import, turned to another base, class and field). -/
namespace PySem
namespace ErrX
open PySem.W PySem.Calls PyProof.Rows PySem.HandSPX
abbrev exTail : List Value := [.type "Exception", .type "BaseException", .type "object"]
/-! ### the text of __init__ -/
def iA (p1 p2 : Pos) : Arguments := { posonlyargs := [], args := [{ arg := "self", annotation := none, pos := p1 }, { arg := "number", annotation := none, pos := p2 }], vararg := none, kwonlyargs := [], kw_defaults := [], kwarg := none, defaults := [] }
def iB (q1 q2 q3 q4 : Pos) : List Stmt := [.Assign [.Attribute (.Name "self" q1) "number" q2] (.Name "number" q3) q4]
def iS : Scope := { kind := .function, names := [(PySem.Str.ofString "self", .local), (PySem.Str.ofString "number", .local)], isGenerator := false, isCoroutine := false, more := [] }
/-- what the written part says of TooMany, at C, of the class above it, at B, and of its __init__, at fI -/
structure ErrTxt (K : Frag) (mg : Str → Option Value) (C fI : Addr) : Prop where
  gC : mg "TooMany" = some (.ref C)
  cls : ∃ nm q N bs B sn sub ab col dd k0 k1 k2 k3 k5, K.lookup C = some (excClassObj nm q C N bs (.ref B :: exTail) true sn sub ab col dd k0 k1 k2 k3 k5 "Exception.__new__")
  sa : findIn K (.ref C) "__setattr__" = some (some (.builtin "object.__setattr__"))
  ga : findIn K (.ref C) "__getattribute__" = some (some (.builtin "BaseException.__getattribute__"))
  gg : findIn K (.ref C) "__getattr__" = some none
  noN : findIn K (.ref C) "number" = some none
  iC : findIn K (.ref C) "__init__" = some (some (.ref fI))
  tC : typeIn K (.ref fI) = some (.type "function")
  kC : keepIn K (.ref C) = true
  exC : subIn K (.ref C) (.type "BaseException") = some true
  tyC : typeIn K (.ref C) = some (.type "type")
  hdC : hasDictIn K C = true
  te : exmOne K (.ref C) (.ref C) = some true
  fn : ∃ (oc : Value) (od : Option Addr) (kV doc pm : Value) (an : Option Addr) (cdv ct : Value) (osl : Array (Option Value)) (p1 p2 q1 q2 q3 q4 : Pos),
    K.lookup fI = some ⟨oc, od, .func (fnOf "__init__" "TooMany.__init__" (iA p1 p2) (iB q1 q2 q3 q4) iS .none kV doc pm an cdv ct), osl⟩ ∧ codeIn K cdv "TooMany.__init__" = true
theorem one_fits (v : Value) : [v].length ≤ sizeLine := by
  rw [sizeLine_eq]
  exact (by decide : 1 ≤ 16777216)
theorem tail_eq (B : Addr) (X : String) : (Value.ref B :: exTail).contains (.type X) = exTail.contains (.type X) := by
  rw [List.contains_cons]; rfl
theorem lp {M : Model} {s : Shared} {name : Str} {scope : Scope} {L a : Addr} {cd : Value} {m : Str → Option Value} {x : Str} {pos : Pos} {v : Value} {Q : Value → Shared → Prop} {A : Around} {E : Value → Shared → Prop} (hn : s.heap.Ns L m) (hv : m x = some v) (h : Q v s)
    (hk : scope.kind = .function := by rfl) (hl : (envOfC name scope L a cd).kindOf x = some .local := by rfl) (hd : (x == ("__debug__" : Str)) = false := by decide) :
    wpAny M A (eval (.Name x pos) (envOfC name scope L a cd)) Q E s := wpAny_Name (wpAny_loadName_local hk hl hn hv h) hd
section
variable {prog : Program} {w : World} {A : Around} {E : Value → Shared → Prop} {R : Result → Shared → Prop}
/-- self.name = v on an exception without a dict, its class over Exception -/
theorem store_err {hp : Heap} {g : Array GenState} {d : Drawn} {t : Nat} {os : OsState} {K : Frag} {name : Str} {tk : Tok} {v : Value} {x C B : Addr} {fv : Array Value} {cd : ClassData}
    (X : K.In hp) (hx : hp.get? x = some { cls := .ref C, data := .fields fv }) (hcd : clsIn K C = some cd) (hm : cd.mro = .ref C :: .ref B :: exTail) (hh : cd.hasDict = true) (ha : findIn K (.ref C) name = some none)
    (hq : ∀ h' tk' dx, (∀ b o, b ≠ x → hp.get? b = some o → h'.get? b = some o) → hp.objs.size ≤ dx → dx ≠ x → h'.get? x = some { cls := .ref C, dict := some dx, data := .fields fv } →
      h'.Ns1 dx (fun y => if y = name then some v else none) → R (.ok (.ret .none)) ⟨h', g, d, tk', os⟩) :
    codeAny (model prog w) A (.call (.builtin "object.__setattr__") ⟨[.ref x, .str name tk, v], []⟩) R ⟨hp, g, d, t, os⟩ := by
  have I : InstAt hp x { cls := .ref C, data := .fields fv } C none := ⟨hx, rfl, rfl, trivial⟩
  have SF := F.store_object
  have new : x ≠ hp.objs.size := Nat.ne_of_lt (Heap.lt_size hx)
  have isO : Looks (model prog w) hp (isInstance (.ref x) (.type "object")) true := I.type.andThen (looks_mroIn X (by unfold mroIn; rw [hcd, Option.bind_some, hm]; rfl))
  refine codeAny_call_builtin SF.slot.plain SF.entry (@check_slot (model prog w) _ _ ⟨hp, g, d, t, os⟩ "object.__setattr__" "object" "__setattr__" (.ref x) [.str name tk, v] [] _ SF.kind SF.split isO (SF.args (.ref x) (.str name tk) v) ?_)
  have hmr : Looks (model prog w) hp (mroOf (.ref C)) cd.mro := (looks_clsIn X hcd).andThen .now
  have none_ : Looks (model prog w) hp (Builtin.ObjectAttr.storeTaker? none) none := .now
  have hcls : Looks (model prog w) hp (classData C) cd := looks_clsIn X hcd
  rw [osa_eq, refuse_eq]
  refine wpAny_bind (wpAny_bind (I.type.at (wpAny_bind (hmr.at ?_))))
  rw [hm, refuseLoop_ref, refuseLoop_ref, F.store_Exception.passes]
  refine wpAny_pure (wpAny_bind (I.type.at (wpAny_bind ((looks_findIn X ha).at (wpAny_bind (none_.at ?_))))))
  show wpAny _ _ (Builtin.ObjectAttr.storeInOwnDict (.ref x) (.ref C) (.str name tk) name v false) _ _ _
  obtain ⟨nm, bs, mro, ns, qn, hd, sn, sb, ab, col, del⟩ := cd
  dsimp only at hh
  subst hh
  unfold Builtin.ObjectAttr.storeInOwnDict Builtin.ObjectAttr.ownDictForStores
  repeat (first | with_reducible refine store_in_new ?_ ?_ | with_reducible refine wpAny_loadPart_at hx ?_ | with_reducible refine hcls.at ?_ | wp_step)
  · exact ⟨_, #[], _, (Heap.get?_update_ne _ _ _ _ new.symm).trans (Heap.get?_push_at rfl rfl), rfl, fun e he => absurd he (by simp), fun _ => rfl⟩
  · intro h' tk' hn' hs
    have hx1 : (hp.push { cls := .type "dict", data := .dict #[] }).get? x = some { cls := .ref C, data := .fields fv } := Heap.get?_push_of_some _ hx
    refine hq h' tk' hp.objs.size (fun b o hb ho => ?_) (Nat.le_refl _) new.symm ?_ hn'
    · exact (hs.2 b (Nat.ne_of_lt (Heap.lt_size ho))).trans ((Heap.get?_update_ne _ _ _ _ hb).trans (Heap.get?_push_of_some _ ho))
    · exact (hs.2 x new).trans (Heap.get?_update_self _ hx1 rfl)
end
/-- what __init__ leaves of a fresh exception at x -/
structure InitEnd (h h' : Heap) (x C dx t1 : Addr) (v : Value) : Prop where
  keep : ∀ b o, b ≠ x → h.get? b = some o → h'.get? b = some o
  obj : h'.get? x = some { cls := .ref C, dict := some dx, data := .fields #[.ref t1, .none, .none, .none, .bool false, .none] }
  dbig : h.objs.size ≤ dx
  dne : dx ≠ x
  ns : h'.Ns1 dx (fun y => if y = "number" then some v else none)
/-- a made one -/
structure Made (h h' : Heap) (e C d : Addr) (v : Value) : Prop where
  keep : ∀ b o, h.get? b = some o → h'.get? b = some o
  new : h.objs.size ≤ e
  obj : ∃ oe vs, h'.get? e = some oe ∧ oe.cls = .ref C ∧ oe.dict = some d ∧ oe.data = .fields vs ∧ vs[1]? = some .none
  dbig : h.objs.size ≤ d
  dne : d ≠ e
  ns : h'.Ns1 d (fun y => if y = "number" then some v else none)
section
variable {prog : Program} {w : World} {A : Around} {E : Value → Shared → Prop} {R : Result → Shared → Prop} {s : Shared} {K : Frag} {mg : Str → Option Value} {C fI : Addr}
theorem init_ok (T : ErrTxt K mg C fI) {x t0 : Addr} {v : Value} (X : K.In s.heap) (hlim : s.heap.NoLimit) (hx : s.heap.get? x = some (excO C t0)) (hroom : A.depth < recursionLimit)
    (hq : ∀ h' tk dx, InitEnd s.heap h' x C dx t0 v → R (.ok (.ret .none)) { s with heap := h', toks := tk }) :
    codeAny (model prog w) A (.call (.ref fI) ⟨[.ref x, v], []⟩) R s := by
  obtain ⟨oc, od, kV, doc, pm, an, cdv, ct, osl, p1, p2, q1, q2, q3, q4, ho, hcd⟩ := T.fn
  obtain ⟨nm, q, N, bs, B, sn, sub, ab, col, dd, k0, k1, k2, k3, k5, hC⟩ := T.cls
  have hcl : clsIn K C = some { name := nm, bases := bs, mro := .ref C :: .ref B :: exTail, ns := N, qualname := q, hasDict := true, slotNames := sn, subclasses := sub, abstract := ab, collection := col, hasDel := false } := by unfold clsIn; rw [hC] <;> rfl
  refine Att.call_fn (binds := [("self", .ref x), ("number", v)]) X hlim ho hcd hroom (BindsTo.of_eq (by first | rfl | with_unfolding_all rfl)) (by first | rfl | decide | with_unfolding_all rfl) (fun s₁ IC => ?_) rfl rfl rfl
  obtain ⟨h₁, tk₁, rfl⟩ := IC.toInCall.same
  have k : ∀ b o, s.heap.get? b = some o → h₁.get? b = some o := IC.toInCall.keep
  have hn := IC.toInCall.ns
  have X₁ : K.In h₁ := X.keeps k
  have hx₁ := k _ _ hx
  show wpAny _ _ (execs _ _) _ _ _
  refine wpAny_execs_cons (plainObj_wpAny_Assign_Attribute ?_)
  refine lp (v := v) hn (by first | rfl | with_unfolding_all rfl | kernel_rfl) (lp (v := .ref x) hn (by first | rfl | with_unfolding_all rfl | kernel_rfl) ?_)
  refine set_plain X₁ (ox := excO C t0) (od := none) ⟨hx₁, rfl, rfl, trivial⟩ T.sa ?_
  refine store_err X₁ hx₁ hcl rfl rfl T.noN (fun h₃ tk₃ dx k₃ dn dne hx₃ hn₃ => ?_)
  show wpAny _ _ (execs _ _) _ _ _
  have z : s.heap.objs.size < h₁.objs.size := hn.lt
  exact wpAny_execs_nil (hq h₃ tk₃ dx ⟨fun b o hb e => k₃ b o hb (k b o e), hx₃, Nat.le_of_lt (Nat.lt_of_lt_of_le z dn), dne, hn₃⟩)
theorem made_ok (T : ErrTxt K mg C fI) {v : Value} (X : K.In s.heap) (hlim : s.heap.NoLimit) (hroom : A.depth + 1 < recursionLimit)
    (hq : ∀ h' tk e d, Made s.heap h' e C d v → R (.ok (.ret (.ref e))) { s with heap := h', toks := tk }) :
    codeAny (model prog w) A (.call (.ref C) ⟨[v], []⟩) R s := by
  obtain ⟨nm, q, N, bs, B, sn, sub, ab, col, dd, k0, k1, k2, k3, k5, hC⟩ := T.cls
  obtain ⟨hp, g, dr, tk, os⟩ := s
  have k : ∀ b o, hp.get? b = some o → ((hp.push (kdv_tup [v])).push (excO C hp.objs.size)).get? b = some o := fun b o e => Heap.get?_push_of_some _ (Heap.get?_push_of_some _ e)
  have hget : ((hp.push (kdv_tup [v])).push (excO C hp.objs.size)).get? (hp.objs.size + 1) = some (excO C hp.objs.size) := by heap_get
  refine call_own F.excBase_Exception (tail_eq B) (X _ _ hC) (looks_findIn X T.iC) (fun self => bind_fn X self T.tC) (one_fits v) ?_
  refine init_ok (s := ⟨(hp.push (kdv_tup [v])).push (excO C hp.objs.size), g, dr, tk, os⟩) T (X.keeps k) (hlim.keeps k) hget ?_ fun h' tk' dx ⟨k', hx, dn, dne, hns⟩ => ?_
  · show A.depth + 1 < recursionLimit
    exact hroom
  · have old : ∀ b o, hp.get? b = some o → h'.get? b = some o := fun b o e => k' b o (Nat.ne_of_lt (Nat.lt_succ_of_lt (Heap.lt_size e))) (k b o e)
    have z : hp.objs.size + 1 + 1 ≤ dx := by
      first
        | (simpa only [Heap.size_push] using dn)
        | exact dn
        | (have q := dn; rw [Heap.size_push, Heap.size_push] at q; exact q)
    exact ⟨rfl, hq h' tk' (hp.objs.size + 1) dx ⟨old, Nat.le_succ _, ⟨_, _, hx, rfl, rfl, rfl, rfl⟩, Nat.le_trans (Nat.le_trans (Nat.le_succ _) (Nat.le_succ _)) z, dne, hns⟩⟩
end
end ErrX
end PySem

/-! raise, try (own work; the making and the reading follow the skeleton 42_own_error_by_import). -/
namespace Mp
open PySem PySem.Spec PyProof.Rows L2

theorem relO_num {v : V} {v' : Value} (r : RelV v v') (f : Str) : RelO (List.lookup f [(Str.ofString "number", v)]) (if f = "number" then some v' else none) := by
  by_cases hw : f = "number"
  · subst hw
    rw [if_pos rfl, List.lookup_cons_self]
    exact r
  · rw [if_neg hw]
    have z : (f == Str.ofString "number") = false := by simpa using hw
    rw [List.lookup, z]
    trivial
section
variable {X : Cx} {C fI : Addr}
/-- TooMany(e) -/
def tMkE (C : Addr) (ta : TA) : L2.St → Hp → XK → Prop := fun σ H Q => ta σ H fun vs H1 => ∃ v, vs = [v] ∧ ∀ d, H1 d = none → Q (.ref C) (some d) (upd H1 d (.xd [(Str.ofString "number", v)]))
theorem pmk_err {a : Expr} {ta : TA} {p pos : Pos} {k : Nat} (T : PySem.ErrX.ErrTxt X.K X.mg C fI) (hr : Room k X.A) (ha : PA X [a] ta) (hg : Gl X "TooMany")
    (he : starEach (a :: []) X.env = (false, eval a X.env) :: starEach [] X.env) (hpl : (backTo pos (starEach [] X.env)).any (·.1) = false := by rfl) :
    PMk X (.Call (.Name "TooMany" p) [a] [] pos) (tMkE C ta) := by
  intro pins s σ H Q I h
  refine wpAny_Call_Name_kw (ld_glob I hg T.gC ?_)
  refine PySem.W.callWith_K (h₀ := X.base) I.ok.mod.kin T.kC (thn (ha.run pos pins s σ H _ I h) fun us s1 ⟨vs, H1, I1, r1, v, ev, q1⟩ => ⟨I1.kIn, ?_⟩) he hpl
  subst ev
  cases r1 with
  | cons rv rn =>
    rename_i v' us'
    cases rn
    have hlim := I1.nolimit
    obtain ⟨hp, g, dr, tk, os⟩ := s1
    refine wpAny_call (PySem.ErrX.made_ok T I1.kIn hlim (by have := hr.dp; omega) fun h' tk' e d M => ?_)
    show MkP X pins σ Q (.ref e) ⟨h', g, dr, tk', os⟩
    obtain ⟨oe, fv, hoe, hc, hd, hdat, h1⟩ := M.obj
    have hns := M.ns
    obtain ⟨G, g1, g2⟩ := restrict h' fun b => decide (b ≠ e)
    have gk : ∀ b, b ≠ e → G.get? b = h'.get? b := fun b hb => g1 b (decide_eq_true hb)
    have ge : G.get? e = none := g2 e (by simp)
    have old : ∀ b o, hp.get? b = some o → G.get? b = some o := fun b o q => (gk b (Nat.ne_of_lt (Nat.lt_of_lt_of_le (Heap.lt_size q) M.new))).trans (M.keep b o q)
    have ob : ObjOk X.prog X.w (upd H1 d (.xd [(Str.ofString "number", v)])) G d (.xd [(Str.ofString "number", v)]) :=
      ⟨_, hns.at (fun o q => (gk d M.dne).trans q), fun f => relO_num rv f⟩
    have J : Inv X pins σ (upd H1 d (.xd [(Str.ofString "number", v)])) ⟨G, g, dr, tk', os⟩ := I1.laid (t' := tk') old M.dbig ob
    refine ⟨e, oe, fv, ⟨G, g, dr, tk', os⟩, _, .ref C, some d, rfl, J, fun b o q => ?_, ge, hoe, ⟨hc, hd⟩, hdat, h1, ?_, rfl, I1.bare, raises_own T.exC T.tyC, q1 d (I1.hok.fresh M.dbig)⟩
    · by_cases hb : b = e
      · have q : G.get? b = some o := q
        rw [hb, ge] at q
        cases q
      · exact (gk b hb).symm.trans q
    · rw [upd_ne (Ne.symm M.dne)]
      exact I1.hok.fresh M.new
/-- e.number, e the exception that the suite holds -/
def tNum (C : Addr) (a : Addr) (cls : Value) (d : Option Addr) (te : TE) : TE := fun σ H Q => te σ H fun x H1 => x = .ref a ∧ cls = .ref C ∧ ∃ (dd : Addr) (v : V), d = some dd ∧ H1 dd = some (.xd [(Str.ofString "number", v)]) ∧ Q v H1
theorem pe_num {a : Addr} {oe : Obj} {cls : Value} {d : Option Addr} {pn : List (Addr × Obj)} {e : Expr} {te : TE} {pos : Pos} (T : PySem.ErrX.ErrTxt X.K X.mg C fI) (hz : Zc cls d oe) (hf : ∃ vs, oe.data = .fields vs) (he : PE (X.suite a ((a, oe) :: pn)) e te)
    (hb : attributeBase e "number" X.env (eval e X.env) = eval e X.env) :
    PE (X.suite a ((a, oe) :: pn)) (.Attribute e "number" pos) (tNum C a cls d te) := by
  refine ⟨fun pins s σ H Q I h => attr_of hb (thn (he.run pins s σ H _ I h) fun u s1 ⟨x, H1, I1, rx, ex, ec, dd, v, ed, ea, q⟩ => ?_)⟩
  subst ex
  obtain rfl : u = Value.ref a := rx
  subst ec
  subst ed
  obtain ⟨ha, _⟩ := I1.pin (a, oe) (List.mem_append_left _ List.mem_cons_self)
  obtain ⟨vs, hd⟩ := hf
  have hx : ObjOk X.prog X.w H1 s1.heap dd (.xd [(Str.ofString "number", v)]) := I1.hok dd _ ea
  obtain ⟨mA, hns, hr⟩ := hx
  obtain ⟨od, ho, hl⟩ := lookIn_ns hns
  obtain ⟨u, hu, ru⟩ := RelO.some_of (v := v) (o := mA "number") (by
    have z := hr "number"
    rw [List.lookup_cons_self] at z
    exact z)
  have J : PySem.W.InstAt s1.heap a oe C (some od) := ⟨ha, hz.1, by unfold PySem.W.notCls; rw [hd] <;> rfl, by rw [hz.2]; exact ho⟩
  exact HandSPX.exc_get I1.kIn J T.ga T.gg T.exC (PySem.W.findObj_own T.hdC T.noN rfl (by rw [hl, hu])) (handed_of ru) ⟨v, H1, I1.tok _, ru, q⟩
end
section
variable {ca : CA} {Wx : WX} {X : Cx} {fI : Addr} {m : Sm} {e a : Expr} {n na : Den} {pos p pos2 : Pos}
theorem St1.raise {k : Nat} (y : Cy X Wx) (T : PySem.ErrX.ErrTxt X.K X.mg (ca "TooMany") fI) (hr : Room k X.A) (hg : Gl X "TooMany") (ha : Sd ca Wx X a na) (hsa : isStar a = false) :
    St1 ca Wx X (.Raise (some (.Call (.Name "TooMany" p) [a] [] pos)) none pos2) (Dm.raise "TooMany" "number" na) := by
  refine ⟨PS.of (ps_raise y.calm y.tk (pmk_err T hr (SdL.pa (.cons ha hsa .nil)) hg (starEach_cons hsa))) fun N σ H ⟨W0, H0, W, ρ, μ, g, r, f, ow, hw⟩ => ?_⟩
  have hw : Wp X.w ca Wx (na.v ρ >>= fun v => (M.throw ⟨"TooMany", [("number", v)]⟩ : M Out)) σ W0 μ H0 (EndAt X.w ca H0 N) := hw
  have hw : Wp X.w ca Wx (evs ρ [(false, na)] >>= fun ds => (match ds with | [v] => M.throw ⟨"TooMany", [("number", v)]⟩ | _ => M.bad : M Out)) σ W0 μ H0 (EndAt X.w ca H0 N) := by
    have e : (evs ρ [(false, na)] >>= fun ds => (match ds with | [v] => M.throw ⟨"TooMany", [("number", v)]⟩ | _ => M.bad : M Out)) = (na.v ρ >>= fun v => (M.throw ⟨"TooMany", [("number", v)]⟩ : M Out)) := by
      funext μ
      show Res.bind (Res.bind (na.v ρ μ) _) _ = Res.bind (na.v ρ μ) _
      cases na.v ρ μ <;> rfl
    rw [e]
    exact hw
  refine ⟨W, ρ, μ, g, r, (hw.bindB f).impE fun W1 μ1 H1 ds ed g1 f1 h1 vs rv => ?_⟩
  have hl := evs_len ed rfl
  match ds, hl with
  | [v], _ =>
    obtain ⟨u, q, rfl, ru, rq⟩ := rv
    have rq : q = [] := rq
    subst rq
    refine ⟨u, rfl, fun d hd => ?_⟩
    have h1 : ∀ W' H' cls d, GS X.w ca W' μ1 H' → Fr W0 H0 W' H' → XRep X.w ca W' H' ⟨"TooMany", [("number", v)]⟩ cls d → Wx cls (some d) σ H' := h1
    exact h1 W1 _ _ d (g1.beside hd) ((f.trans f1).trans (Mp.Fr.beside hd)) ⟨rfl, _, upd_same, u, [], rfl, ru, rfl⟩
  | [], hl => simp at hl
  | _ :: _ :: _, hl => simp at hl
/-- what a suite answers of what the exception holds -/
def Told (h : List (String × D) → Sm) (F : D → Option D) : Prop := ∀ l ρ μ, h l ρ μ = .bad ∨ ∃ n r, l = [("number", n)] ∧ h l ρ μ = .ok (.ret r) μ ∧ F n = some r
/-- what the suite's expression asks -/
def TellOk (w : World) (ca : CA) (i : Nat) (te : Addr → Value → Option Addr → TE) (F : D → Option D) : Prop :=
  ∀ (a d : Addr) (σ : L2.St) (H : Hp) (v : V) (n r : D) (W : Wd) (μ : Mu) (K : VK), σ[i]? = some (some (.ref a)) → GS w ca W μ H → H d = some (.xd [(Str.ofString "number", v)]) → Rep w ca W n v → F n = some r →
    (∀ W' H' u, GS w ca W' μ H' → Fr W H W' H' → Rep w ca W' r u → K u H') → te a (.ref (ca "TooMany")) (some d) σ H K
theorem try_read {b : Sm} {h : List (String × D) → Sm} {F : D → Option D} {i : Nat} {N : Ends} {te : Addr → Value → Option Addr → TE} {σ : L2.St} {H : Hp} (T : PySem.ErrX.ErrTxt X.K X.mg (ca "TooMany") fI)
    (hh : Told h F) (ht : TellOk X.w ca i te F) (hi : i < σ.length) (hw : TSt X.w ca Wx (Dm.try_ "TooMany" b h) N σ H) :
    TSt X.w ca (wAs X.K (.ref (ca "TooMany")) i (fun a cls d => tRet (te a cls d)) Wx N) b N σ H := by
  obtain ⟨W0, H0, W, ρ, μ, g, r, f, ow, hw⟩ := hw
  refine ⟨W0, H0, W, ρ, μ, g, r, f, ow, ?_⟩
  have e0 : Dm.try_ "TooMany" b h ρ μ = (match b ρ μ with
    | .ok o μ' => .ok o μ'
    | .exc x μ' => if x.c = "TooMany" then h x.l ρ μ' else .bad
    | .bad => .bad) := rfl
  unfold Wp at hw ⊢
  rw [e0] at hw
  cases e : b ρ μ with
  | ok o μ' => rw [e] at hw; exact hw
  | bad => rw [e] at hw; exact hw
  | exc x μ' =>
    rw [e] at hw
    intro W' H' cls d g' f' xr
    by_cases hx : x.c = "TooMany"
    · simp only [if_pos hx] at hw
      rcases hh x.l ρ μ' with z | ⟨n, r', el, z, eF⟩
      · simp only [z] at hw
      · simp only [z] at hw
        obtain ⟨ec, fs, hd, rf⟩ := xr
        rw [el] at rf
        obtain ⟨v, q, rfl, rv, rq⟩ := rf
        have rq : q = [] := rq
        subst rq
        rw [hx] at ec
        subst ec
        refine ⟨true, T.te, fun _ a _ => ?_, fun q => Bool.noConfusion q⟩
        refine ht a d _ H' v n r' W' μ' _ (List.getElem?_set_self hi) g' hd rv eF fun W2 H2 u g2 f2 ru => ?_
        exact hw W2 H2 g2 (f'.trans f2) u ru
    · simp only [if_neg hx] at hw
/-- try: body except TooMany as n: return e -/
theorem St1.tryRet {te : Addr → Value → Option Addr → TE} {b : Sm} {h : List (String × D) → Sm} {F : D → Option D} {i : Nat} {nm : Str} {np rp hp : Pos} {body : List Stmt} (y : Cy X Wx) (T : PySem.ErrX.ErrTxt X.K X.mg (ca "TooMany") fI)
    (hs : X.stack = X.env :: X.outer) (hf : X.env.frame = some X.env.locals) (hi : X.N[i]? = some nm) (hln : X.env.kindOf nm = some .local) (hg : Gl X "TooMany")
    (hh : Told h F) (ht : TellOk X.w ca i te F)
    (hb : ∀ (W : WX) (pn : List (Addr × Obj)) (xe : Value → Shared → Prop), Takes (X.tr pn xe) W → PassesOwn (model X.prog X.w) X.A X.env xe → Sts ca W (X.tr pn xe) body b)
    (hsu : ∀ (a : Addr) (oe : Obj) (cls : Value) (d : Option Addr) (pn : List (Addr × Obj)), Zc cls d oe → (∃ vs, oe.data = .fields vs) → PE (X.suite a ((a, oe) :: pn)) e (te a cls d)) :
    St1 ca Wx X (.Try body [.ExceptHandler (some (.Name "TooMany" np)) (some nm) [.Return (some e) rp] hp] [] [] pos) (Dm.try_ "TooMany" b h) := by
  refine ⟨⟨fun pins s σ H N I q => ?_⟩⟩
  have hl : i < σ.length := by rw [I.len]; exact (List.getElem?_eq_some_iff.mp hi).1
  exact (ps_try_as (i := i) (tb := fun W => TSt X.w ca W b) (ts := fun a cls d => tRet (te a cls d)) (Wout := Wx) hs hf y.nd hi hln ⟨hg, by decide, .inl T.gC⟩ y.tk
    (fun W pn xe tk pa => (hb W pn xe tk pa).ps) (fun a oe cls d pn hz hf => pss_one (ps_ret (hsu a oe cls d pn hz hf)))).run pins s σ H N I (try_read T hh ht hl q)
theorem told_ok {w : Str} : Told (Dm.told w) fun n => some (.lst [.str w, n]) := fun l ρ μ => by
  unfold Dm.told
  split
  · exact .inr ⟨_, _, rfl, rfl, rfl⟩
  · exact .inl rfl
theorem above_ok {m : Int} : Told (Dm.above m) fun n => (match n with | .int i => some (.bl (decide (m < i))) | _ => none) := fun l ρ μ => by
  unfold Dm.above
  split
  · exact .inr ⟨_, _, rfl, rfl, rfl⟩
  · exact .inl rfl
theorem tell_told {w : Str} {i : Nat} : TellOk X.w ca i (fun a cls d => tLst (tCons (tC (.str w)) (tCons (tNum (ca "TooMany") a cls d (tVar i)) tNil))) fun n => some (.lst [.str w, n]) := by
  intro a d σ H v n r W μ K e g hd rv eF k
  cases eF
  refine ⟨_, e, rfl, rfl, d, v, rfl, hd, (by rw [sizeLine_eq]; exact (by decide : 2 ≤ 16777216)), fun p hp => ?_⟩
  have sq := (g.free hp).1
  refine k _ _ _ (g.add hp) (Mp.Fr.add g hp) ⟨p, _, rfl, upd_same, _, _, rfl, rfl, _, _, rfl, Rep.mono (Wd.le_add sq) _ _ rv, rfl⟩
theorem tell_above {m : Int} {i : Nat} : TellOk X.w ca i (fun a cls d => tOp (rI0 fun i j => .bl (decide (j < i))) (tNum (ca "TooMany") a cls d (tVar i)) (tC (.int m))) fun n => (match n with | .int i => some (.bl (decide (m < i))) | _ => none) := by
  intro a d σ H v n r W μ K e g hd rv eF k
  cases n <;> first | (cases eF; done) | skip
  cases eF
  have rv : v = .int _ := rv
  subst rv
  exact ⟨_, e, rfl, rfl, d, _, rfl, hd, _, _, rfl, rfl, k W H _ g (Mp.Fr.refl W H) rfl⟩
end
end Mp

/-! zip of a text and a tuple (own work; the library's zipD2 does the turns). -/
namespace Mp
open PySem PySem.Spec PyProof.Rows L2

/-- zip of a text and a tuple -/
def zipST : D → D → M (List D)
  | .str s, .tup l => M.ret (zipL (s.cps.toList.map fun c => .str ⟨#[c]⟩) l)
  | _, _ => M.bad
def Di.zipS (a b : Den) : Rho → M (List D) := fun ρ => do
    let x ← a.v ρ
    let y ← b.v ρ
    zipST x y
/-- a text and the tuple at a, signs and items in new pairs -/
def ItzS (K : PySem.W.Frag) (x : Str) (a : Addr) (xs : List V) : It :=
  ⟨fun i H => SqT K H a xs ∧ i < x.cps.size ∧ i < xs.length,
    fun i H v H' => ∃ T c y, v = .ref T ∧ H T = none ∧ H' = upd H T (.tup [.str ⟨#[c]⟩, y]) ∧ x.cps[i]? = some c ∧ xs[i]? = some y,
    fun i H => SqT K H a xs ∧ (x.cps.size ≤ i ∨ xs.length ≤ i)⟩
/-- where the walk stands -/
structure ZSt (z TI TO i1 i2 a : Addr) (x : Str) (t : Tok) (n i : Nat) (h : Heap) : Prop where
  hz : IsZip h z TI TO .none
  hTI : IsTupOf2 h TI (.ref i1) (.ref i2)
  hTO : ∃ u v, IsTupOf2 h TO u v
  h1 : h.IsStrIter i1 (strIterType x) x t i
  h2 : h.IsTupleIter i2 a i
  le1 : i ≤ x.cps.size
  le2 : i ≤ n
theorem turn_zipS {P : Program} {w : World} {K : PySem.W.Frag} {elts : List Expr} {kk : Nat} {tpos : Pos} {z TI TO i1 i2 a : Addr} {x : Str} {t : Tok} {xs : List V} (S : ZipSep2 z TI TO i1 i2 [i1] [i2, a]) (na : a ≠ i2) :
    Turn P w K (.Tuple elts kk tpos) (ItzS K x a xs) [z, TI, TO, i1, i2] z (ZSt z TI TO i1 i2 a x t xs.length) where
  mem := by simp
  obj := fun i h st c hc => by
    obtain ⟨hz, hTI, ⟨u, v, hTO⟩, ⟨o1, e1, _, d1⟩, ⟨o2, e2, _, d2⟩, _, _⟩ := st
    simp only [List.mem_cons, List.not_mem_nil, or_false] at hc
    rcases hc with rfl | rfl | rfl | rfl | rfl
    · exact ⟨_, hz, fun v q => nomatch q⟩
    · exact ⟨_, hTI, fun v q => nomatch q⟩
    · exact ⟨_, hTO, fun v q => nomatch q⟩
    · exact ⟨o1, e1, fun v q => by rw [d1] at q; cases q⟩
    · exact ⟨o2, e2, fun v q => by rw [d2] at q; cases q⟩
  keep := fun i h h' st k => by
    obtain ⟨hz, hTI, ⟨u, v, hTO⟩, ⟨o1, e1, r1⟩, h2, l1, l2⟩ := st
    exact ⟨k z (by simp) _ hz, k TI (by simp) _ hTI, ⟨u, v, k TO (by simp) _ hTO⟩, ⟨o1, k i1 (by simp) _ e1, r1⟩, h2.at fun o q => k i2 (by simp) o q, l1, l2⟩
  item := by
    intro X hP hw hK hc i pins s σ H E I hf st hg
    subst hP hw hK
    obtain ⟨hz, hTI, ⟨u0, v0, hTO⟩, h1, h2, _, _⟩ := st
    obtain ⟨hq, hx, hy⟩ := hg
    obtain ⟨its, rv, p, _⟩ := I.tuple hq
    obtain ⟨u, hu, ru⟩ := rv.get (List.getElem?_eq_getElem hy)
    have hzl : z < s.heap.objs.size := Heap.lt_size hz
    have hh := I.ok.hd hc
    have D1 := Draws.text (prog := X.prog) (w := X.w) (A := X.A.in1) hh i1 x t
    have D2 := Draws.tuple (prog := X.prog) (w := X.w) (A := X.A.in1) hh i2 a na its.toArray
    refine wpAny_pyNext_zipD2_item S D1 D2 hz hTI hTO h1 ⟨h2, p⟩ hx (by rw [List.size_toArray, ← rv.length]; exact hy) fun x1 x2 h' tk y1 y2 z' TO' h1' h2' hT hsz hk => ?_
    obtain ⟨c, uc, hcx, rfl⟩ := y1
    have e2 : x2 = u := by
      have q : its[i]? = some x2 := by simpa using y2
      rw [hu] at q
      exact (Option.some.inj q).symm
    subst e2
    refine ⟨_, rfl, wpAny_letOwnedTupleGo_zip (s := { s with heap := h', toks := tk }) z' fun h'' z'' sb => ?_⟩
    have hT2 : h''.get? s.heap.objs.size = some { cls := .type "tuple", data := .seq #[.str ⟨#[c]⟩ uc, x2] } := (sb.2 _ (Nat.ne_of_gt hzl)).trans hT
    have new : ObjOk X.prog X.w (upd H s.heap.objs.size (.tup [.str ⟨#[c]⟩, xs[i]])) h'' s.heap.objs.size (.tup [.str ⟨#[c]⟩, xs[i]]) :=
      ⟨by show 2 ≤ sizeLine; decide, [.str ⟨#[c]⟩ uc, x2], .cons ⟨uc, rfl⟩ (.cons ru .nil), ⟨_, hT2, rfl, _, rfl⟩⟩
    have I1 : Inv X pins σ (upd H s.heap.objs.size (.tup [.str ⟨#[c]⟩, xs[i]])) { s with heap := h'', toks := tk } :=
      I.turnedNew (ch := [z, TI, TO, i1, i2]) (fun b o hb q => by
        simp only [List.mem_cons, List.not_mem_nil, or_false, not_or] at hb
        exact (sb.2 b hb.1).trans (hk b o hb.1 hb.2.2.1 hb.2.2.2.1 hb.2.2.2.2 q)) hf (Nat.le_refl _) new
    refine ⟨.ref s.heap.objs.size, _, I1, rfl, ⟨_, c, xs[i], rfl, I.hok.fresh (Nat.le_refl _), rfl, hcx, List.getElem?_eq_getElem hy⟩, ⟨z'', ?_, ⟨.str ⟨#[c]⟩ uc, x2, ?_⟩, ?_, ?_, hx, hy⟩, fun b hb => ?_⟩
    · exact (sb.2 _ S.TIz).trans (hk _ _ S.TIz S.TITO S.TIi1 S.TIi2 hTI)
    · exact (sb.2 _ S.TOz).trans TO'
    · obtain ⟨o, e, r⟩ := h1'
      exact ⟨o, (sb.2 _ S.zi1.symm).trans e, r⟩
    · exact h2'.1.at fun o q => (sb.2 _ S.zi2.symm).trans q
    · have hlt : b < s.heap.objs.size := by
        obtain ⟨_, y1, _⟩ := id h1
        obtain ⟨_, y2, _⟩ := id h2
        simp only [List.mem_cons, List.not_mem_nil, or_false] at hb
        rcases hb with rfl | rfl | rfl | rfl | rfl
        · exact hzl
        · exact Heap.lt_size hTI
        · exact Heap.lt_size hTO
        · exact Heap.lt_size y1
        · exact Heap.lt_size y2
      rw [upd_ne (Nat.ne_of_lt hlt)]
      exact (hf b hb).1
  done := by
    intro X hP hw hK hc i pins s σ H E I hf st hg
    subst hP hw hK
    obtain ⟨hz, hTI, ⟨u0, v0, hTO⟩, h1, h2, l1, l2⟩ := st
    obtain ⟨hq, hend⟩ := hg
    obtain ⟨its, rv, p, _⟩ := I.tuple hq
    have hl : its.toArray.size = xs.length := by rw [List.size_toArray, ← rv.length]
    have hh := I.ok.hd hc
    have D1 := Draws.text (prog := X.prog) (w := X.w) (A := X.A.in1) hh i1 x t
    have D2 := Draws.tuple (prog := X.prog) (w := X.w) (A := X.A.in1) hh i2 a na its.toArray
    refine wpAny_pyNext_zipD2_end S D1 D2 hz hTI hTO h1 ⟨h2, p⟩ l1 (by rw [hl]; exact l2) (by rcases hend with q | q; exact .inl (Nat.le_antisymm l1 q); exact .inr (by rw [hl]; exact Nat.le_antisymm l2 q)) fun h' tk hk => ⟨rfl, I.turnedL (ch := [z, TI, TO, i1, i2]) (fun b o hb q => ?_) hf⟩
    simp only [List.mem_cons, List.not_mem_nil, or_false, not_or] at hb
    exact hk b o hb.1 hb.2.2.1 hb.2.2.2.1 hb.2.2.2.2 q
  self := fun A i s Q E st h => wpAny_pyIter_zip st.hz h
def iZipS (K : PySem.W.Frag) (ta : TA) : TI := fun σ H R => ta σ H fun vs H1 => ∃ x a xs, vs = [.str x, .ref a] ∧ SqT K H1 a xs ∧ R (ItzS K x a xs) H1
theorem pi_zipS {X : Cx} {e e2 : Expr} {ta : TA} {p pos tpos : Pos} {elts : List Expr} {kk : Nat} (hg : Gl X "zip") (hm : X.mg "zip" = none) (ha : PA X [e, e2] ta)
    (hs : starEach [e, e2] X.env = (false, eval e X.env) :: starEach [e2] X.env := by rfl) (hpl : (backTo pos (starEach [e2] X.env)).any (·.1) = false := by rfl) :
    PI X (.Tuple elts kk tpos) (.Call (.Name "zip" p) [e, e2] [] pos) (iZipS X.K ta) := by
  refine ⟨fun pins s σ H R I h => Call_ (ld_blt I hg hm PyProof.Rows.boot_zip (PyProof.Rows.callWith_type1 (thn (ha.run pos pins s σ H _ I h) fun us s1 ⟨vs, H1, I1, r1, x, a, xs, ex, hq, q⟩ => ?_) hs hpl))⟩
  subst ex
  cases r1 with
  | cons r rr =>
    cases rr with
    | cons r' rr =>
      cases rr
      obtain ⟨t, rfl⟩ := r
      cases r'
      obtain ⟨its, rv, p1, _⟩ := I1.tuple hq
      obtain ⟨oa, hoa, _⟩ := id p1
      have ha := Heap.lt_size hoa
      have D := PySem.W.ktu_apart s1.heap.objs.size a a ha ha
      refine zip_begins2 (begins_text x t) (begins_tuple a its.toArray) trivial p1 fun h' hz hTI hTO g1 g2 hsz hk => wpAny_pyIter_zip hz ?_
      have I2 : Inv X pins σ H1 { s1 with heap := h' } := I1.kept (t' := s1.toks) hk
      refine ⟨s1.heap.objs.size + 4, [s1.heap.objs.size + 4, s1.heap.objs.size + 2, s1.heap.objs.size + 3, s1.heap.objs.size, s1.heap.objs.size + 1], ZSt (s1.heap.objs.size + 4) (s1.heap.objs.size + 2) (s1.heap.objs.size + 3) s1.heap.objs.size (s1.heap.objs.size + 1) a x t xs.length, _, H1, rfl, I2,
        turn_zipS ?_ D.l2i2, ⟨hz, hTI, ⟨_, _, hTO⟩, ⟨_, g1, rfl, rfl⟩, ⟨_, g2, rfl, rfl⟩, Nat.zero_le _, Nat.zero_le _⟩, fun c hc => ?_, q⟩
      · exact ⟨D.TIz, D.TOz, D.TITO, D.TIi1, by simp, by simpa using D.i1z.symm, by simpa using D.TOi1, D.TIi2, by simp, by simp only [List.mem_cons, List.not_mem_nil, or_false, not_or]; exact ⟨D.i2z.symm, D.l1z.symm⟩, by simp only [List.mem_cons, List.not_mem_nil, or_false, not_or]; exact ⟨D.TOi2, D.l1TO.symm⟩, by simp only [List.mem_cons, List.not_mem_nil, or_false, not_or]; exact ⟨D.i12, D.l1i1.symm⟩, by simpa using D.i12.symm⟩
      · have hle : s1.heap.objs.size ≤ c := by
          simp only [List.mem_cons, List.not_mem_nil, or_false] at hc
          rcases hc with rfl | rfl | rfl | rfl | rfl
          · exact Nat.le_add_right _ 4
          · exact Nat.le_add_right _ 2
          · exact Nat.le_add_right _ 3
          · exact Nat.le_refl _
          · exact Nat.le_add_right _ 1
        exact I1.fpOk hle (I1.hok.fresh hle)
section
variable {w : World} {ca : CA} {K : PySem.W.Frag} {W : Wd} {H : Hp}
theorem zipL_get : ∀ (l m : List D) (i : Nat), (zipL l m)[i]? = (match l[i]?, m[i]? with
    | some a, some b => some (.tup [a, b])
    | _, _ => none)
  | [], m, i => by cases m <;> simp [zipL]
  | a :: l, [], i => by
    simp only [zipL, List.getElem?_nil]
    cases (a :: l)[i]? <;> rfl
  | a :: l, b :: m, 0 => rfl
  | a :: l, b :: m, i + 1 => by simpa [zipL] using zipL_get l m i
theorem it_zipS {x : Str} {a : Addr} {l : List D} {vs : List V} (e : W.S a = some (.tup vs)) (r : Reps w ca W l vs) : ItRep w ca W H (ItzS K x a vs) (zipL (x.cps.toList.map fun c => .str ⟨#[c]⟩) l) := fun i W1 μ1 H1 g1 f1 => by
  have hs : SqT K H1 a vs := SqT.of (g1.sub _ _ (f1.s _ _ e))
  have hl := r.length
  refine ⟨fun d hd => ?_, fun hi => ⟨hs, ?_⟩⟩
  · rw [zipL_get, List.getElem?_map] at hd
    cases h1 : x.cps.toList[i]? with
    | none => rw [h1] at hd; simp at hd
    | some c =>
      cases h2 : l[i]? with
      | none => rw [h1, h2] at hd; simp at hd
      | some y =>
        rw [h1, h2] at hd
        simp only [Option.map_some, Option.some.injEq] at hd
        subst hd
        obtain ⟨v, hv, rv⟩ := r.get h2
        have hc : x.cps[i]? = some c := by simpa using h1
        refine ⟨⟨hs, (Array.getElem?_eq_some_iff.mp hc).1, (List.getElem?_eq_some_iff.mp hv).1⟩, fun u H2 ⟨T, c', y', ex, hT, e2, q1, q2⟩ => ?_⟩
        subst ex e2
        rw [hc] at q1
        rw [hv] at q2
        cases q1
        cases q2
        exact ⟨_, g1.add hT, Mp.Fr.add g1 hT, T, _, rfl, upd_same, _, _, rfl, rfl, _, _, rfl, Rep.mono (f1.trans (Wd.le_add (g1.free hT).1)) _ _ rv, rfl⟩
  · have z : (zipL (x.cps.toList.map fun c => D.str ⟨#[c]⟩) l)[i]? = none := List.getElem?_eq_none hi
    rw [zipL_get, List.getElem?_map] at z
    cases h1 : x.cps.toList[i]? with
    | none => exact .inl (by simpa using h1)
    | some c =>
      cases h2 : l[i]? with
      | none => exact .inr (by rw [hl]; simpa using h2)
      | some y => rw [h1, h2] at z; simp at z
end
section
variable {ca : CA} {Wx : WX} {X : Cx} {e a : Expr} {n na : Den} {pos p tpos : Pos} {elts : List Expr} {kk : Nat}
theorem Si.zipS (h : Sd ca Wx X e n) (h2 : Sd ca Wx X a na) (hg : Gl X "zip") (hm : X.mg "zip" = none) (hs : starEach [e, a] X.env = (false, eval e X.env) :: starEach [a] X.env := by rfl) (hs2 : starEach [a] X.env = (false, eval a X.env) :: starEach [] X.env := by rfl)
    (hpl : (backTo pos (starEach [a] X.env)).any (·.1) = false := by rfl) : PI X (.Tuple elts kk tpos) (.Call (.Name "zip" p) [e, a] [] pos) (TIt X.w ca Wx (Di.zipS n na)) := by
  refine PI.of (pi_zipS hg hm (pa_cons h.v (pa_cons h2.v pa_nil hs2) hs) hs hpl) fun σ H R ⟨W, ρ, μ, g, r, hw⟩ => ?_
  refine ⟨W, ρ, μ, g, r, hw.bind.imp fun W1 μ1 H1 x g1 f1 h1 v rv => ⟨W1, ρ, μ1, g1, r.fr f1, h1.bind.imp fun W2 μ2 H2 y g2 f2 h2 u ru => ?_⟩⟩
  cases x <;> first | exact (Wp.bad h2).elim | skip
  rename_i s
  cases y <;> first | exact (Wp.bad h2).elim | skip
  rename_i l
  have rv : v = .str s := rv
  subst rv
  obtain ⟨ad, vs, rfl, ea, rl⟩ := ru
  exact ⟨s, ad, vs, rfl, SqT.of (g2.sub _ _ ea), h2.ret g2 _ (it_zipS ea rl)⟩
end
end Mp

/-! lambda x: str(x), called on a text (own work). -/
namespace Mp
open PySem PySem.Spec PyProof.Rows L2

section
variable {prog : Program} {w : World} {A : Around} {E : Value → Shared → Prop} {s : Shared} {f c' : Addr} {qual x : Str} {params : Arguments} {scope : Scope} {pm ctv : Value} {p1 p2 p3 : Pos} {mg mb : Str → Option Value} {y : Str} {t : Tok}
/-- the names of such a lambda -/
structure LamStr (x : Str) (params : Arguments) (scope : Scope) : Prop where
  kind : scope.kind = .function
  co : scope.isCoroutine = false
  gen : scope.isGenerator = false
  nc : ∀ y ∈ scope.names, y.2 ≠ .cell
  nf : ∀ y ∈ scope.names, y.2 ≠ .free
  lx : scope.names.lookup x = some .local
  ls : scope.names.lookup (Str.ofString "str") = some .globalImplicit
  hd : (x == ("__debug__" : Str)) = false
  bind : ∀ (q : Str) (cl : List (Str × Addr)) (pm cv ctv v : Value) (body : Expr), bindArgs (PySem.W.kla_fn "<lambda>" q params body scope cl pm cv ctv) ⟨[v], []⟩ = pure [(x, v)]
theorem call_strLam (L : LamStr x params scope) (hroom : A.depth < recursionLimit) (hf : s.heap.get? f = some (PySem.W.kla_obj "<lambda>" qual params (.Call (.Name "str" p1) [.Name x p2] [] p3) scope [] pm c' ctv))
    (hcd : s.heap.CodeRec (.ref c') qual) (hlim : s.heap.NoLimit) (hg : s.heap.Ns mainGlobals mg) (hm : mg "str" = none) (hb : s.heap.Ns builtinsNs mb) (hs : mb "str" = some (.type "str")) :
    wpAny (model prog w) A (call (.ref f) [.str y t]) (PySem.W.KeyPure (.str y) s) E s := by
  refine wpAny_call (PySem.W.kla_callFunE hroom hf rfl L.co L.gen rfl hcd ?_)
  rw [L.bind]
  refine wpAny_pure (wpAny_newFunctionEnv L.nc (fun z hz => ?_) (fun h₁ hns hsb => ⟨hlim.fresh _ hsb, ?_⟩) L.kind)
  · rw [List.mem_singleton.mp hz]
    exact L.lx
  have kp : ∀ b o, s.heap.get? b = some o → h₁.get? b = some o := fun b o e => hsb.extBut b o (Nat.ne_of_lt (Heap.lt_size e)) (Heap.get?_push_of_some _ e)
  refine PySem.W.kla_codeExpr ?_
  refine wpAny_Call_Name_kw (Calls.Name_function_global L.kind L.ls (Calls.loadGlobal_builtin (hg.keeps kp) hm (hb.keeps kp) hs ?_))
  refine PyProof.Rows.callWith_type1 (args_cons ?_ rfl) rfl rfl
  refine wpAny_Name (wpAny_loadName_local L.kind L.lx hns (v := .str y t) (by simp) ?_) L.hd
  refine args_nil ?_
  exact PySem.P.str_of_str ⟨_, _, rfl, kp, .str y _⟩
end
end Mp

/-! The lambda made (own work). -/
namespace Mp
open PySem PySem.Spec PyProof.Rows L2

section
variable {w : World} {ca : CA} {W : Wd} {μ : Mu} {H : Hp}
theorem GS.grow (g : GS w ca W μ H) {P c' : Addr} {q : Str} {ps : Array Value} {pos : Pos} (hT : (P, q) ∈ ca.T) (hu : ∀ p ∈ ca.T, p.1 = P → p.2 = q) (hP : H P = some (.tbl ps)) (hc : W.S c' = some (LamX.CodeO c' q)) :
    GS w ca W μ (upd H P (.tbl (ps ++ #[rawInt pos.line, rawInt pos.col, .ref c']))) ∧ Fr W H W (upd H P (.tbl (ps ++ #[rawInt pos.line, rawInt pos.col, .ref c']))) := by
  obtain ⟨ps', e1, e2, e3, sP, iP⟩ := g.tb _ hT
  have e1 : H P = some (.tbl ps') := e1
  rw [hP] at e1
  cases e1
  have sP : W.S P = none := sP
  have iP : P ∉ W.ι := iP
  refine ⟨⟨fun a u e => ?_, g.len, g.nd, fun n d a q1 q2 => ?_, fun a m => ?_, fun p hp => ?_⟩, Wd.le.refl W, fun a u e s n => ⟨s, n, ?_⟩⟩
  · rw [upd_ne (fun z => by subst z; rw [sP] at e; cases e)]
    exact g.sub a u e
  · obtain ⟨s, k⟩ := g.lv n d a q1 q2
    have z : a ≠ P := fun z => by subst z; exact iP (List.mem_of_getElem? q2)
    exact ⟨s, At.mono (Wd.le.refl W) (fun u e => by rw [upd_ne z]; exact e) d k⟩
  · obtain ⟨u, e⟩ := g.inh a m
    exact ⟨u, by rw [upd_ne (fun z => by subst z; exact iP m)]; exact e⟩
  · by_cases z : p.1 = P
    · rw [hu p hp z, z]
      have eL : (ps ++ #[rawInt pos.line, rawInt pos.col, Value.ref c']).toList = ps.toList ++ [rawInt pos.line, rawInt pos.col, .ref c'] := by simp
      refine ⟨_, upd_same, by rw [eL]; exact PySem.TriplesOk_snoc _ _ _ _ e2, fun p' cv hcv => ?_, sP, iP⟩
      rw [eL] at hcv
      rcases LamX.among_app _ e2 hcv with k | k
      · exact e3 p' cv k
      · exact ⟨c', k, hc⟩
    · obtain ⟨ps2, a1, a2, a3, a4, a5⟩ := g.tb p hp
      exact ⟨ps2, by rw [upd_ne z]; exact a1, a2, a3, a4, a5⟩
  · by_cases z : a = P
    · subst z
      rw [hP] at e
      cases e
      exact .inr ⟨ps, _, rfl, upd_same⟩
    · exact .inl (by rw [upd_ne z]; exact e)
end
section
variable {X : Cx} {ca : CA} {pins : List (Addr × Obj)} {σ : L2.St} {H : Hp} {s : Shared} {W : Wd} {μ : Mu}
/-- the lambda is made: its code object is new, or found in the table -/
theorem lam_made {c P : Addr} {params : Arguments} {body : Expr} {scope : Scope} {pos : Pos} {E : Value → Shared → Prop} {Q : Value → Shared → Prop} (I : Inv X pins σ H s) (g : GS X.w ca W μ H) (TB : LamX.TabB X.base X.mg c P) (hcode : X.env.code = .ref c)
    (hT : (P, X.env.qual ++ "<lambda>") ∈ ca.T) (hu : ∀ p ∈ ca.T, p.1 = P → p.2 = X.env.qual ++ "<lambda>") (hdef : defaultsOf params X.env = ([], [])) (hfree : ∀ y ∈ scope.names, y.2 ≠ .free)
    (h : ∀ (f c' : Addr) (pm ctv : Value) (W1 : Wd) (H1 : Hp) (s' : Shared), Inv X pins σ H1 s' → GS X.w ca W1 μ H1 → Fr W H W1 H1 →
      s'.heap.get? f = some (PySem.W.kla_obj "<lambda>" (X.env.qual ++ "<lambda>") params body scope [] pm c' ctv) → s'.heap.CodeRec (.ref c') (X.env.qual ++ "<lambda>") → Q (.ref f) s') :
    wpAny (model X.prog X.w) X.A (eval (.Lambda params body scope pos) X.env) Q E s := by
  obtain ⟨ps, hP, ht, ha, sP, iP⟩ := g.tb _ hT
  have hP : H P = some (.tbl ps) := hP
  have hfree' : ∀ y ∈ scope.names, y.2 = .free → ∃ c, X.env.cells.lookup y.1 = some c := fun y hy e => absurd e (hfree y hy)
  have hcl : cloFrom X.env.cells scope.names [] = [] := by
    cases q : cloFrom X.env.cells scope.names [] with
    | nil => rfl
    | cons p r =>
      have hm : p ∈ cloFrom X.env.cells scope.names [] := by rw [q]; exact List.mem_cons_self
      rcases cloFrom_mem hm with z | ⟨z, _⟩
      · cases z
      · exact absurd rfl (hfree _ z)
  refine PySem.W.kla_eval hdef ?_
  have bP : s.heap.BuiltinsAt X.mg P := TB.bm.keeps I.bk
  have hP' : s.heap.get? P = some { cls := .none, data := .fields ps } := I.hok P _ hP
  cases hc : codeAmong pos ps.toList with
  | none =>
    refine PySem.W.kla_makeFunction (mg := X.mg) (c := c) (P := P) (ps := ps) (closure_ok hfree') I.ok.glob (I.mod.glob.keeps I.bk) hcode (TB.code.keeps I.bk) hP' ht hc TB.gP bP fun c' ctv h' tk hx hge hlt hrec htb => ?_
    obtain ⟨c2, oc, vs, t, e2, hoc, hd, hv⟩ := hrec
    cases e2
    have nC : H c' = none := I.hok.fresh hge
    have nPc : P ≠ c' := fun z => by subst z; rw [hP] at nC; cases nC
    have I1 := LamX.inv_table (t' := tk) (more := #[rawInt pos.line, rawInt pos.col, .ref c']) (h' := h'.push (PySem.W.kla_obj "<lambda>" (X.env.qual ++ "<lambda>") params body scope (cloFrom X.env.cells scope.names []) ((X.mg "__name__").getD .none) c' ctv)) I hP
      (fun b o hb e => Heap.get?_push_of_some _ (hx b o hb e)) (Heap.get?_push_of_some _ htb) hge ⟨oc, vs, t, Heap.get?_push_of_some _ hoc, hd, hv⟩
    have g1 : GS X.w ca (W.add c' (LamX.CodeO c' (X.env.qual ++ "<lambda>"))) μ (upd H c' (LamX.CodeO c' (X.env.qual ++ "<lambda>"))) := g.add nC
    have f1 : Fr W H (W.add c' (LamX.CodeO c' (X.env.qual ++ "<lambda>"))) (upd H c' (LamX.CodeO c' (X.env.qual ++ "<lambda>"))) := Mp.Fr.add g nC
    obtain ⟨g2, f2⟩ := g1.grow (P := P) (c' := c') (q := X.env.qual ++ "<lambda>") (ps := ps) (pos := pos) hT hu (by rw [upd_ne nPc]; exact hP) upd_same
    have eH : upd (upd H P (.tbl (ps ++ #[rawInt pos.line, rawInt pos.col, .ref c']))) c' (LamX.CodeO c' (X.env.qual ++ "<lambda>")) = upd (upd H c' (LamX.CodeO c' (X.env.qual ++ "<lambda>"))) P (.tbl (ps ++ #[rawInt pos.line, rawInt pos.col, .ref c'])) := by
      funext b
      by_cases z : b = c'
      · subst z; rw [upd_same, upd_ne nPc.symm, upd_same]
      · by_cases z2 : b = P
        · subst z2; rw [upd_ne z, upd_same, upd_same]
        · rw [upd_ne z, upd_ne z2, upd_ne z2, upd_ne z]
    rw [eH] at I1
    refine h h'.objs.size c' ((X.mg "__name__").getD .none) ctv _ _ _ I1 g2 (f1.trans f2) ?_ ⟨c', oc, vs, t, rfl, Heap.get?_push_of_some _ hoc, hd, hv⟩
    rw [hcl]
    exact Heap.get?_push_size _ rfl
  | some cv =>
    obtain ⟨c', e, hco⟩ := ha pos cv hc
    subst e
    refine PySem.W.kla_makeFunctionHit (mg := X.mg) (c := c) (P := P) (ps := ps) (closure_ok hfree') I.ok.glob (I.mod.glob.keeps I.bk) hcode (TB.code.keeps I.bk) hP' ht hc bP fun ctv h' tk hx hsz => ?_
    have I1 : Inv X pins σ H { s with heap := h'.push (PySem.W.kla_obj "<lambda>" (X.env.qual ++ "<lambda>") params body scope (cloFrom X.env.cells scope.names []) ((X.mg "__name__").getD .none) c' ctv), toks := tk } := I.kept fun b o e => Heap.get?_push_of_some _ (hx b o e)
    obtain ⟨⟨oc, vs, t, e1, e2, e3⟩, _⟩ := I1.hok c' _ (g.sub _ _ hco)
    refine h h'.objs.size c' ((X.mg "__name__").getD .none) ctv W H _ I1 g (Mp.Fr.refl W H) ?_ ⟨c', oc, vs, t, rfl, e1, e2, e3⟩
    rw [hcl]
    exact Heap.get?_push_size _ rfl
end
end Mp

/-! sorted(d, key=lambda x: str(x)), d a dict of texts (own work). -/
namespace Mp
open PySem PySem.Spec PyProof.Rows L2

/-- texts in their order -/
def ordS (l : List Str) : List Str := l.mergeSort (PySem.W.dataLe false PyData.str)
def keysS (l : List (D × D)) : Option (List Str) := strsOf (l.map (·.1))
def sortL (n : Nat) (ks : List Str) : M D := if n ≤ line then M.ret (.lst ((ordS ks).map D.str)) else M.bad
def sortO (n : Nat) : Option (List Str) → M D
  | some ks => sortL n ks
  | none => M.bad
def sortM : D → M D
  | .dct false l => sortO l.length (keysS l)
  | _ => M.bad
/-- sorted by str -/
def Dn.sortK (e : Den) : Den := .ofV fun ρ => do
  let x ← e.v ρ
  sortM x
section
variable {w : World} {ca : CA} {W : Wd} {H : Hp}
theorem keysS_rep : ∀ {l : List (D × D)} {ks : List Str} {kvs : List (Key × V)}, keysS l = some ks → RepK w ca W l kvs → kvs.map (·.1) = ks.map Sum.inr
  | [], ks, kvs, e, r => by
    have r : kvs = [] := r
    subst r
    cases e
    rfl
  | p :: l, ks, kvs, e, r => by
    obtain ⟨x, v, q, rfl, a, b, c⟩ := r
    unfold keysS at e
    rw [List.map_cons] at e
    cases hp : p.1 <;> rw [hp] at e <;> first | (cases e; done) | skip
    rename_i y
    have e : (strsOf (l.map (·.1))).map (y :: ·) = some ks := e
    obtain ⟨ks', e1, rfl⟩ := Option.map_eq_some_iff.mp e
    rw [hp] at a
    have a : kV x = .str y := a
    have ex : x = Sum.inr y := by
      cases x with
      | inl i => cases a
      | inr z => cases a; rfl
    rw [List.map_cons, List.map_cons, keysS_rep e1 c, ex]
theorem reps_strs : ∀ (l : List Str), Reps w ca W (l.map D.str) (l.map V.str)
  | [] => rfl
  | s :: l => ⟨_, _, rfl, rfl, reps_strs l⟩
theorem vals_strs : ∀ {l : List Str} {us : List Value}, PySem.W.EachIs (fun (v : Value) (b : Str) => ∃ t, v = .str b t) us l → Vals (l.map V.str) us
  | [], _, .nil => .nil
  | _ :: _, _, .cons h t => .cons h (vals_strs t)
theorem eachs_strs : ∀ {us : List Value} {l : List Str}, StrsAre us l → PySem.W.EachIs (fun (v : Value) (b : Str) => ∃ t, v = .str b t) us l
  | _, _, .nil => .nil
  | _, _, .cons x t h => .cons ⟨t, rfl⟩ (eachs_strs h)
end
section
variable {X : Cx}
/-- the call of sorted, the lambda made -/
theorem call_sortK {pins : List (Addr × Obj)} {σ : L2.St} {H : Hp} {s : Shared} {a f c' : Addr} {kvs : List (Key × V)} {ks : List Str} {qual x : Str} {params : Arguments} {scope : Scope} {pm ctv : Value} {p1 p2 p3 : Pos} {k : Nat} {Q : VK}
    (I : Inv X pins σ H s) (hcalm : X.calm = true) (hu : X.A.units + 64 < cLine) (hr : Room k X.A) (L : LamStr x params scope) (hmg : X.mg "str" = none) (hd : Rd H a (.dK kvs)) (hks : kvs.map (·.1) = ks.map Sum.inr)
    (hf : s.heap.get? f = some (PySem.W.kla_obj "<lambda>" qual params (.Call (.Name "str" p1) [.Name x p2] [] p3) scope [] pm c' ctv)) (hcd : s.heap.CodeRec (.ref c') qual)
    (q : ∀ p, H p = none → Q (.ref p) (upd H p (.lst ((ordS ks).map V.str)))) :
    wpAny (model X.prog X.w) X.A (call (.builtin "sorted") [.ref a] [(Str.ofString "key", .ref f)]) (EP X pins σ Q) X.xe s := by
  obtain ⟨z, lo, vs, rel, dd⟩ := dk_rd I.hok hd
  obtain ⟨ep, hat⟩ := dd.dictAt
  have hkeys : vs.map (·.1) = ks.map Sum.inr := rel.keys.symm.trans hks
  have hl : vs.length = ks.length := by
    have e := congrArg List.length hkeys
    rw [List.length_map, List.length_map] at e
    exact e
  have h16 : vs.length ≤ sizeLine := by rw [← rel.length]; exact z
  refine PyProof.Rows.call_function_entry_kw PyProof.Rows.kind_sorted PyProof.Rows.plain_sorted PyProof.Rows.entry_sorted (ksk_s1 _ _) ?_
  unfold Builtin.«sorted»
  refine wpAny_bind (m := checkCount "sorted" 1 1 _) (wpAny_pure ?_)
  refine wpAny_bind (PySem.W.kdu_collect (A := X.A.in1) (PySem.W.kdl_dict (knd := mixKind X.prog X.w) (kvs := vs) (ep := ep) lo) (I.ok.hd hcalm) hat h16 fun h' tk acc hk hacc => ?_)
  have hal : acc.toList.length = ks.length := by rw [Array.length_toList, hacc.1, hl]
  have hS : StrsAre acc.toList ks := strs_at hal fun j v e => by
    obtain ⟨k, x, e1, e2⟩ := hacc.2 j v (by rw [← Array.getElem?_toList]; exact e)
    have e3 : (vs.map (·.1))[j]? = some k := by rw [List.getElem?_map, e1] <;> rfl
    rw [hkeys, List.getElem?_map] at e3
    obtain ⟨y, e4, e5⟩ := Option.map_eq_some_iff.mp e3
    subst e5
    obtain ⟨t, ev⟩ := Value.isStrOf_shape (x := y) (v := v) e2
    exact ⟨y, t, e4, ev⟩
  have hE := eachs_strs hS
  have I1 : Inv X pins σ H { s with heap := h', toks := tk } := I.kept hk
  have hz : acc.toList.length ≤ sizeLine := by rw [hal, ← hl]; exact h16
  refine wpAny_bind (wpAny_newList ?_ hz)
  have hoL : (h'.push (seqObj "list" acc.toList.toArray 0)).get? h'.objs.size = some (seqObj "list" acc.toList.toArray 0) := Heap.get?_push_size _ rfl
  have up0 : ∀ b o, s.heap.get? b = some o → (h'.push (seqObj "list" acc.toList.toArray 0)).get? b = some o := fun b o e => Heap.get?_push_of_some _ (hk b o e)
  have old : ∀ {g : Heap}, PySem.W.KeepsBut h'.objs.size (h'.push (seqObj "list" acc.toList.toArray 0)) g → ∀ b o, h'.get? b = some o → g.get? b = some o := fun {g} kp b o e =>
    kp b o (Nat.ne_of_lt (Heap.lt_size e)) (Heap.get?_push_of_some _ e)
  obtain ⟨mb, hb1, hb2⟩ := I.mod.blt
  have hdep := hr.dp
  refine wpAny_bind (wpAny_holding (PySem.W.list_sort_key_data (A := X.A.in1) (s := { s with heap := h'.push (seqObj "list" acc.toList.toArray 0), toks := tk }) (k := PyData.str) (bs := ks) (R := fun v b => ∃ t, v = .str b t) (b := false) (f := .ref f) (n := 0) (kw := [(Str.ofString "key", .ref f)])
    hoL hE (fun d hd d' hd' => ?_) (.inr fun d hd => ?_) (by rw [← hl]; exact h16) (fun y _ => ?_) (ksk_l1 _ _) (ksk_t1 _ _) (fun v y ⟨t, hv⟩ _ g tk2 kp => ?_) fun out c g tk2 kp hD hlen hout => ?_))
  · obtain ⟨u, _, rfl⟩ := List.mem_map.mp hd
    obtain ⟨u', _, rfl⟩ := List.mem_map.mp hd'
    rfl
  · obtain ⟨u, _, rfl⟩ := List.mem_map.mp hd
    exact ⟨PyData.noConfusion, fun _ => PyData.noConfusion⟩
  · show X.A.units + 1 + 1 + 0 < cLine
    omega
  · subst hv
    have kk : ∀ b o, s.heap.get? b = some o → g.get? b = some o := fun b o e => old kp b o (hk b o e)
    refine call_strLam (s := { s with heap := g, toks := tk2 }) (mg := X.mg) (mb := mb) L ?_ (kk _ _ hf) ?_ (I.nolimit.keeps kk) (I.mod.glob.keeps fun b o e => kk b o (I.bk b o e)) hmg (hb1.keeps fun b o e => kk b o (I.bk b o e)) ((hb2 _ (by decide)).trans boot_str)
    · show X.A.depth < recursionLimit
      omega
    · obtain ⟨c2, oc, vv, t, e1, e2, e3⟩ := hcd
      exact ⟨c2, oc, vv, t, e1, kk _ _ e2, e3⟩
  · have e := vals_strs hout
    refine wpAny_pure ⟨_, rfl, .ref h'.objs.size, upd H h'.objs.size (.lst ((ordS ks).map V.str)), I1.laid (t' := tk2) (fun b u e => old kp b u e) (Nat.le_refl _)
      (show ObjOk X.prog X.w _ _ _ (.lst ((ordS ks).map V.str)) from ⟨?_, out, c, e, hD⟩), rfl, q _ (I1.hok.fresh (Nat.le_refl _))⟩
    unfold ordS
    rw [List.length_map, List.length_mergeSort, ← hl]
    exact h16
end
end Mp

/-! sorted(d, key=lambda x: str(x)) as an expression (own work). -/
namespace Mp
open PySem PySem.Spec PyProof.Rows L2

section
variable {ca : CA} {Wx : WX} {X : Cx} {e : Expr} {n : Den} {pos p kpos lpos p1 p2 p3 : Pos} {x : Str} {params : Arguments} {scope : Scope}
/-- where the def's lambdas stand -/
structure LamAt (ca : CA) (X : Cx) (c P : Addr) : Prop where
  tb : LamX.TabB X.base X.mg c P
  code : X.env.code = .ref c
  mem : (P, X.env.qual ++ "<lambda>") ∈ ca.T
  one : ∀ p ∈ ca.T, p.1 = P → p.2 = X.env.qual ++ "<lambda>"
theorem Sd.sortK {c P : Addr} {k : Nat} (y : Cy X Wx) (hr : Room k X.A) (La : LamAt ca X c P) (L : LamStr x params scope) (h : Sd ca Wx X e n) (hse : isStar e = false) (hg : Gl X "sorted") (hm : X.mg "sorted" = none) (hms : X.mg "str" = none) (hdef : defaultsOf params X.env = ([], [])) :
    Sd ca Wx X (.Call (.Name "sorted" p) [e] [⟨some "key", .Lambda params (.Call (.Name "str" p1) [.Name x p2] [] p3) scope lpos, kpos⟩] pos) (Dn.sortK n) := by
  refine .ofV ⟨fun pins s σ H Q I ⟨W, ρ, μ, g, r, hw⟩ => ?_⟩ rfl
  have he : starEach [e] X.env = (false, eval e X.env) :: starEach [] X.env := starEach_cons hse
  refine wpAny_Call_Name_kw (ld_blt I hg hm PyProof.Rows.boot_sorted ?_)
  refine PyProof.Rows.callWith_kw (thn ((pa_cons h.v pa_nil he).run pos pins s σ H (fun vs H1 => ∃ v W1 μ1 l ks, vs = [v] ∧ GS X.w ca W1 μ1 H1 ∧ Rep X.w ca W1 (.dct false l) v ∧ keysS l = some ks ∧ ∀ W' H', GS X.w ca W' μ1 H' → Fr W1 H1 W' H' → ∀ u, Rep X.w ca W' (.lst ((ordS ks).map D.str)) u → Q u H') I ⟨W, ρ, μ, g, r, hw.bind.imp fun W1 μ1 H1 d g1 f1 h1 v rv => ?_⟩) fun us s1 ⟨vs, H1, I1, r1, v, W1, μ1, l, ks, ev, g1, rd, ek, q⟩ => ?_) ?_ ?_ rfl rfl
  · cases d <;> first | exact (Wp.bad h1).elim | skip
    rename_i kk l
    cases kk with
    | true => exact (Wp.bad h1).elim
    | false =>
      have h1 : Wp X.w ca Wx (sortO l.length (keysS l)) σ W1 μ1 H1 _ := h1
      cases ek : keysS l with
      | none => rw [ek] at h1; exact h1.elim
      | some ks =>
        rw [ek] at h1
        have h1 : Wp X.w ca Wx (sortL l.length ks) σ W1 μ1 H1 _ := h1
        unfold sortL at h1
        split at h1
        · exact ⟨v, W1, μ1, l, ks, rfl, g1, rv, ek, fun W' H' g' f' u ru => h1 W' H' g' f' u ru⟩
        · exact h1.elim
  · subst ev
    obtain ⟨a, od, kvs, rfl, ea, rk⟩ := rd
    cases r1 with
    | cons ru rn =>
      cases rn
      cases ru
      show wpAny _ _ (evalAll [(do let v ← eval (.Lambda params (.Call (.Name "str" p1) [.Name x p2] [] p3) scope lpos) X.env; standAt pos; pure v)]) _ _ s1
      refine wpAny_evalAll_cons (wpAny_bind (lam_made I1 g1 La.tb La.code La.mem La.one hdef L.nf fun f c' pm ctv W2 H2 s2 I2 g2 f2 hf hcd => wpAny_bind (wpAny_standAt (wpAny_pure (wpAny_evalAll_nil ?_)))))
      have rk2 := RepK.mono f2.le l kvs rk
      refine call_sortK I2 y.calm y.hu hr L hms (.inr ⟨od, g2.sub _ _ (f2.le.s _ _ ea)⟩) (keysS_rep ek rk2) hf hcd fun p hp => ?_
      exact q _ _ (g2.add hp) (f2.trans (Mp.Fr.add g2 hp)) _ ⟨p, _, rfl, upd_same, reps_strs _⟩
  · rw [he] <;> rfl
  · rw [he] <;> rfl
end
end Mp

/-! A dict of the module, texts to texts, never written (own work). -/
namespace Mp
open PySem PySem.Spec PyProof.Rows L2

/-- some of its entries -/
abbrev Ents := List (Str × Str)
def ninM (l : Ents) : D → M Bool
  | .str z => (match l.lookup z with
    | some _ => M.ret false
    | none => M.bad)
  | _ => M.bad
def ixGo : Option Str → M D
  | some y => M.ret (.str y)
  | none => M.bad
def ixG (l : Ents) : D → M D
  | .str z => ixGo (l.lookup z)
  | _ => M.bad
/-- a not in the module's dict -/
def Dn.ninG (l : Ents) (a : Den) : Den := .ofT (fun ρ => do
  let c ← (do
    let x ← a.v ρ
    ninM l x)
  M.ret (.bl c)) (fun ρ => do
  let x ← a.v ρ
  ninM l x)
def Dn.ixG (l : Ents) (a : Den) : Den := .ofV fun ρ => do
  let x ← a.v ρ
  Mp.ixG l x
/-- the module's dict holds these -/
structure GDict (X : Cx) (nm : Str) (l : Ents) : Prop where
  ex : ∃ (d : Addr) (es : Array DictEntry) (n : Nat), X.mg nm = some (.ref d) ∧ KDict X.K X.w d es n ∧ ∀ z y, l.lookup z = some y → ∃ t, PySem.W.nsIn X.K d z = some (some (.str y t))
  nd : (nm == ("__debug__" : Str)) = false
section
variable {ca : CA} {Wx : WX} {X : Cx} {a : Expr} {na : Den} {pos p : Pos} {nm : Str} {l : Ents}
theorem Sd.ninG (G : GDict X nm l) (hg : Gl X nm) (ha : Sd ca Wx X a na) : Sd ca Wx X (.Compare a [.NotIn] [.Name nm p] pos) (Dn.ninG l na) := by
  obtain ⟨d, es, n, hm, D, hl⟩ := G.ex
  have hn : PE X (.Name nm p) (tC (.ref d)) := pe_glob hg hm rfl G.nd
  have key : ∀ {σ : L2.St} {H : Hp} {ρ : Rho} {W : Wd} {μ : Mu} {K : Bool → Hp → Prop}, Wp X.w ca Wx (na.v ρ >>= fun x => ninM l x) σ W μ H (fun _ _ H' b => K b H') →
      Wp X.w ca Wx (na.v ρ) σ W μ H fun W' _ H' x => ∀ v, Rep X.w ca W' x v → ∃ (z : Str) (r : Option Value), v = .str z ∧ V.ref d = .ref d ∧ PySem.W.nsIn X.K d z = some r ∧ K (!r.isSome) H' := fun {σ H ρ W μ K} hw => by
    refine hw.bind.imp fun W1 μ1 H1 x g1 f1 h1 v rv => ?_
    cases x <;> first | exact (Wp.bad h1).elim | skip
    rename_i z
    have rv : v = .str z := rv
    have h1 : Wp X.w ca Wx (match l.lookup z with
      | some _ => M.ret false
      | none => M.bad) σ W1 μ1 H1 _ := h1
    cases e : l.lookup z with
    | none => rw [e] at h1; exact h1.elim
    | some y =>
      rw [e] at h1
      obtain ⟨t, e2⟩ := hl z y e
      exact ⟨z, _, rv, rfl, e2, h1.ret g1⟩
  have v : PE X (.Compare a [.NotIn] [.Name nm p] pos) (TV X.w ca Wx fun ρ => do
      let c ← (do
        let x ← na.v ρ
        ninM l x)
      M.ret (.bl c)) := PE.of (pe_cmpR (op_notIn_kd D) ha.v hn rfl) fun σ H K ⟨W, ρ, μ, g, r, hw⟩ => by
    have h2 := key (K := fun b H' => K (.bl b) H') ((Wp.map_bl hw).imp fun W1 μ1 H1 b g1 f1 h1 => h1)
    exact ⟨W, ρ, μ, g, r, h2⟩
  exact ⟨v, PT.of (pt_cmpR (op_notIn_kd D) ha.v hn rfl) fun σ H K ⟨W, ρ, μ, g, r, hw⟩ => ⟨W, ρ, μ, g, r, (key (K := K) (hw.imp fun W1 μ1 H1 b g1 f1 h1 => h1 b rfl)).imp fun W1 μ1 H1 x g1 f1 h1 v rv => by
    obtain ⟨z, r, e1, e2, e3, k⟩ := h1 v rv
    exact ⟨z, r, e1, e2, e3, _, rfl, k⟩⟩, Sd.q_of v⟩
theorem Sd.ixG {b : Expr} {nb : Den} (G : GDict X nm l) (hg : Gl X nm) (hb : Sd ca Wx X b nb) (hs : PlainIx b) : Sd ca Wx X (.Subscript (.Name nm p) b pos) (Dn.ixG l nb) := by
  obtain ⟨d, es, n, hm, D, hl⟩ := G.ex
  have hn : PE X (.Name nm p) (tC (.ref d)) := pe_glob hg hm rfl G.nd
  refine .ofV (PE.of (pe_ix ix_kdict hn hb.v hs) fun σ H K ⟨W, ρ, μ, g, r, hw⟩ => ⟨W, ρ, μ, g, r, hw.bind.imp fun W1 μ1 H1 x g1 f1 h1 v rv => ?_⟩) rfl
  cases x <;> first | exact (Wp.bad h1).elim | skip
  rename_i z
  have rv : v = .str z := rv
  have h1 : Wp X.w ca Wx (ixGo (l.lookup z)) σ W1 μ1 H1 _ := h1
  cases e : l.lookup z with
  | none => rw [e] at h1; exact h1.elim
  | some y =>
    rw [e] at h1
    obtain ⟨t, e2⟩ := hl z y e
    exact ⟨d, z, .str y, rfl, rv, ⟨es, n, .str y t, D.at_, D.lit, e2, ⟨t, rfl⟩⟩, h1.ret g1 _ rfl⟩
end
end Mp

/-! Helps for printed proof terms (own work). -/
namespace Mp
open PySem PySem.Spec PyProof.Rows L2

theorem Takes.ofF {X : Cx} : Takes X WxF := fun u s' ⟨_, _, _, _, _, _, _, _, _, _, _, _, _, _, _, _, h⟩ => h.elim
theorem Cy.blk {X : Cx} {Wx : WX} (y : Cy X Wx) {s : Shared} {H : Hp} {scope : Scope} {cenv : Env} {fp : List Addr} : Cy (X.blk s H scope cenv fp) WxF :=
  ⟨Takes.ofF, ⟨fun _ _ _ => False, rfl⟩, y.hu, y.calm, y.nd, PassesOwn.never⟩
section
variable {ca : CA} {Wx : WX} {X : Cx} {pos : Pos}
theorem Sd.globI {x : PySem.Str} {i : Int} (hg : Gl X x) (hm : ∃ t, X.mg x = some (.int i t)) (hd : (x == ("__debug__" : PySem.Str)) = false) : Sd ca Wx X (.Name x pos) (Dn.cst (.int i)) := by
  obtain ⟨t, hm⟩ := hm
  exact Sd.glob (v := .int i) hg hm ⟨t, rfl⟩ hd fun W => rfl
theorem Sd.globS {x z : PySem.Str} (hg : Gl X x) (hm : ∃ t, X.mg x = some (.str z t)) (hd : (x == ("__debug__" : PySem.Str)) = false) : Sd ca Wx X (.Name x pos) (Dn.cst (.str z)) := by
  obtain ⟨t, hm⟩ := hm
  exact Sd.glob (v := .str z) hg hm ⟨t, rfl⟩ hd fun W => rfl
theorem TgOk.n {i : Nat} {x : PySem.Str} {p : Pos} (y : Cy X Wx) (hi : X.N[i]? = some x) (hx : Loc X.env.scope x) (hf : X.fn x = true ∨ X.env.scope.names.lookup x = some .local) : TgOk X (.Name x p) (.name i) := ⟨pg_name y.nd hi hx hf⟩
theorem PgN {i : Nat} {x : PySem.Str} {p : Pos} (hN : X.N.Nodup) (hi : X.N[i]? = some x) (hx : Loc X.env.scope x) (hf : X.fn x = true ∨ X.env.scope.names.lookup x = some .local) : PG X (.Name x p) (gOf X.K (.name i)) := pg_name hN hi hx hf
/-- targets of a tuple -/
inductive PgL (X : Cx) : List Expr → List Nat → Prop
  | nil : PgL X [] []
  | cons {i : Nat} {x : PySem.Str} {p : Pos} {es : List Expr} {is : List Nat} (hi : X.N[i]? = some x) (hx : Loc X.env.scope x) (hf : X.fn x = true ∨ X.env.scope.names.lookup x = some .local) (t : PgL X es is) : PgL X (.Name x p :: es) (i :: is)
theorem PgL.ok {es : List Expr} {is : List Nat} (hN : X.N.Nodup) (h : PgL X es is) : PGs X es (gsOf is) ∧ (assignEach es X.env).length = is.length ∧ (assignEach es X.env).findIdx? (·.1) = none := by
  induction h with
  | nil => exact ⟨pgs_nil, rfl, rfl⟩
  | cons hi hx hf t ih =>
    rename_i i x p es is
    refine ⟨pgs_cons (pg_name hN hi hx hf) ih.1 rfl, ?_, ?_⟩
    · show (assignEach es X.env).length + 1 = is.length + 1
      rw [ih.2.1]
    · show ((false, PySem.assign (.Name x p) X.env) :: assignEach es X.env).findIdx? (·.1) = none
      rw [List.findIdx?_cons, ih.2.2]
      rfl
theorem PgT {es : List Expr} {is : List Nat} {k : Nat} {p : Pos} (hc : X.calm = true) (hN : X.N.Nodup) (h : PgL X es is) : PG X (.Tuple es k p) (gOf X.K (.names is)) :=
  pg_tup hc (h.ok hN).1 (h.ok hN).2.1 (h.ok hN).2.2
theorem TgOk.t {es : List Expr} {is : List Nat} {k : Nat} {p : Pos} (y : Cy X Wx) (h : PgL X es is) : TgOk X (.Tuple es k p) (.names is) := ⟨PgT y.calm y.nd h⟩
/-! blocks -/
def blkB (N : List PySem.Str) (sc scope : Scope) (own : List (PySem.Str × Nat)) : Bool :=
  scope.kind == .function && (scope.names.all (fun y => decide (scope.names.lookup y.1 = some y.2)) && (own.all (fun p => decide (N[p.2]? = some p.1)) &&
    (scope.names.all (fun y => !decide (y.2 = .free) || (decide (sc.names.lookup y.1 = some .cell) || decide (sc.names.lookup y.1 = some .free))) &&
      scope.names.all (fun y => !(decide (y.2 = .local) || decide (y.2 = .cell)) || (decide (y.1 ∈ own.map (·.1)) || !decide (y.1 ∈ N))))))
theorem BlkOk.of {N : List PySem.Str} {sc scope : Scope} {own : List (PySem.Str × Nat)} (h : blkB N sc scope own = true) : BlkOk N sc scope own := by
  unfold blkB at h
  simp only [Bool.and_eq_true, List.all_eq_true, Bool.or_eq_true, Bool.not_eq_true', decide_eq_true_eq, decide_eq_false_iff_not] at h
  obtain ⟨h1, h2, h3, h4, h5⟩ := h
  refine ⟨by simpa using h1, h2, h3, fun y hy e => ?_, fun y hy e => ?_⟩
  · rcases h4 y hy with z | z
    · exact absurd e z
    · exact z
  · rcases h5 y hy with z | z
    · rcases e with e | e
      · exact absurd e (fun q => by simp [q] at z)
      · exact absurd e (fun q => by simp [q] at z)
    · exact z
def lamB (x : PySem.Str) (scope : Scope) : Bool := scope.kind == .function && (!scope.isCoroutine && (!scope.isGenerator && (scope.names.all (fun y => !decide (y.2 = .cell) && !decide (y.2 = .free)) &&
  (decide (scope.names.lookup x = some .local) && (decide (scope.names.lookup (Str.ofString "str") = some .globalImplicit) && !(x == ("__debug__" : PySem.Str)))))))
theorem LamStr.of {x : PySem.Str} {params : Arguments} {scope : Scope} (h : lamB x scope = true) (hb : ∀ (q : PySem.Str) (cl : List (PySem.Str × Addr)) (pm cv ctv v : Value) (body : Expr), bindArgs (PySem.W.kla_fn "<lambda>" q params body scope cl pm cv ctv) ⟨[v], []⟩ = pure [(x, v)]) : LamStr x params scope := by
  unfold lamB at h
  simp only [Bool.and_eq_true, List.all_eq_true, Bool.not_eq_true', decide_eq_true_eq, decide_eq_false_iff_not] at h
  obtain ⟨h1, h2, h3, h4, h5, h6, h7⟩ := h
  exact ⟨by simpa using h1, h2, h3, fun y hy => (h4 y hy).1, fun y hy => (h4 y hy).2, h5, h6, by simpa using h7, hb⟩
end
/-- FnM.of, the code object known -/
theorem FnM.ofC {P : Program} {w : World} {K : PySem.W.Frag} {mg : Str → Option Value} {base : Heap} {ca : CA} {x qual : Str} {params : Arguments} {body : List Stmt} {scope : Scope} {dvs : List V} {kws : List (Str × V)} {f : Addr} {fd : FuncData} {N ps : List Str} {k n sl : Nat} {m : Sm} {df : List D} {ds : List Value} {dv : List V}
    (F : FunD K x qual params body scope dvs kws f fd) (S : FnScope N ps scope) (hp : ps.length = n) (hsl : N.length = sl) (B : Binds K fd ps ds) (Vd : Vals dv ds) (R : ∀ W, Reps w ca W df dv)
    (hb : ∀ (A : Around) (outer : List Env) (s : Shared) (H : Hp) (E : XK), Room k (cxOf (L2.CX P w) P w K mg base N qual scope f fd.code A outer s H E).A → Cy (cxOf (L2.CX P w) P w K mg base N qual scope f fd.code A outer s H E) (fun c d _ H => E c d H) →
      Sts ca (fun c d _ H => E c d H) (cxOf (L2.CX P w) P w K mg base N qual scope f fd.code A outer s H E) body m) : FnM P w K mg base ca (k + 1) f n df (fnOf n sl m) := by
  subst hp hsl
  have F0 := F
  obtain ⟨oc, od, dV, kV, doc, pm, an, cdv, ct, osl, rfl, lk, hcd, h1, h2⟩ := F.ex
  refine ⟨⟨_, ps, ds, dv, ?_, B, Vd, R⟩, F0.kp⟩
  exact fn_of lk hcd S (fun vs H Q E ⟨W, μ, d, g, r, hl, _⟩ => by rw [r.length, hl]) fun A outer s H vs Q E hr ⟨W, μ, d, g, r, hl, h⟩ => ⟨_, (hb A outer s H E hr (cy_of hr S.nd)).ps, body_read g r (fun _ _ _ _ _ z => z) h⟩
theorem FnOk.ofB {P : Program} {w : World} {K : PySem.W.Frag} {mg : Str → Option Value} {base : Heap} {ca : CA} {x qual : Str} {params : Arguments} {body : List Stmt} {scope : Scope} {dvs : List V} {kws : List (Str × V)} {f : Addr} {fd : FuncData} {N ps : List Str} {k n sl : Nat} {m : Sm}
    (F : FunD K x qual params body scope dvs kws f fd) (S : FnScope N ps scope) (hp : ps.length = n) (hsl : N.length = sl)
    (hb : ∀ (cdv : Value) (A : Around) (outer : List Env) (s : Shared) (H : Hp) (E : XK), Room k (cxOf (L2.CX P w) P w K mg base N qual scope f cdv A outer s H E).A → Cy (cxOf (L2.CX P w) P w K mg base N qual scope f cdv A outer s H E) (fun c d _ H => E c d H) →
      Sts ca (fun c d _ H => E c d H) (cxOf (L2.CX P w) P w K mg base N qual scope f cdv A outer s H E) body m) : FnOk P w K mg base (L2.CX P w) (k + 1) f fd ps (spM w ca n (fnOf n sl m)) := by
  subst hp hsl
  exact F.ok S (fun vs H Q E ⟨W, μ, d, g, r, hl, _⟩ => by rw [r.length, hl]) fun cdv A outer s H vs Q E hr ⟨W, μ, d, g, r, hl, h⟩ => ⟨_, (hb cdv A outer s H E hr (cy_of hr S.nd)).ps, body_read g r (fun _ _ _ _ _ z => z) h⟩
/-- a def with lambdas: its code object, its table -/
structure LamF (base : Heap) (mg : Str → Option Value) (ca : CA) (qual : Str) (fd : FuncData) : Prop where
  ex : ∃ c P, LamX.TabB base mg c P ∧ fd.code = .ref c ∧ (P, (qual ++ ".<locals>.") ++ "<lambda>") ∈ ca.T ∧ ∀ p ∈ ca.T, p.1 = P → p.2 = (qual ++ ".<locals>.") ++ "<lambda>"
theorem LamF.at_ {P : Program} {w : World} {K : PySem.W.Frag} {mg : Str → Option Value} {base : Heap} {ca : CA} {N : List Str} {qual : Str} {scope : Scope} {f : Addr} {fd : FuncData} {A : Around} {outer : List Env} {s : Shared} {H : Hp} {E : XK} (L : LamF base mg ca qual fd) :
    ∃ c P0, LamAt ca (cxOf (L2.CX P w) P w K mg base N qual scope f fd.code A outer s H E) c P0 := by
  obtain ⟨c, P0, h1, h2, h3, h4⟩ := L.ex
  exact ⟨c, P0, h1, h2, h3, h4⟩
theorem bt_isinstance : bootBuiltins "isinstance" = some (.builtin "isinstance") := by decide +kernel
theorem bt_int : bootBuiltins "int" = some (.type "int") := by decide +kernel
theorem bt_bool : bootBuiltins "bool" = some (.type "bool") := by decide +kernel
theorem bt_str : bootBuiltins "str" = some (.type "str") := by decide +kernel
theorem bt_tuple : bootBuiltins "tuple" = some (.type "tuple") := by decide +kernel
theorem bt_list : bootBuiltins "list" = some (.type "list") := by decide +kernel
theorem bt_dict : bootBuiltins "dict" = some (.type "dict") := by decide +kernel
theorem bt_len : bootBuiltins "len" = some (.builtin "len") := by decide +kernel
theorem bt_all : bootBuiltins "all" = some (.builtin "all") := by decide +kernel
theorem bt_any : bootBuiltins "any" = some (.builtin "any") := by decide +kernel
theorem bt_sum : bootBuiltins "sum" = some (.builtin "sum") := by decide +kernel
theorem bt_max : bootBuiltins "max" = some (.builtin "max") := by decide +kernel
theorem bt_min : bootBuiltins "min" = some (.builtin "min") := by decide +kernel
end Mp

/-! sorted by a sort that a kernel computes (own work). -/
namespace Mp
open PySem PySem.Spec PyProof.Rows L2

def leN : List Nat → List Nat → Bool
  | [], _ => true
  | _ :: _, [] => false
  | a :: r, b :: q => if Nat.blt a b then true else if Nat.blt b a then false else leN r q
theorem leN_eq : ∀ (a b : List Nat), leN a b = decide (a ≤ b)
  | [], b => by simp [leN]
  | a :: r, [] => by simp [leN]
  | a :: r, b :: q => by
    have e : (a :: r ≤ b :: q) ↔ (a < b ∨ a = b ∧ r ≤ q) := List.cons_le_cons_iff
    have h1 : Nat.blt a b = decide (a < b) := by
      by_cases h : a < b
      · rw [decide_eq_true h]; exact Nat.ble_eq_true_of_le h
      · rw [decide_eq_false h]
        cases q : Nat.blt a b with
        | false => rfl
        | true => exact absurd (Nat.le_of_ble_eq_true q) h
    have h2 : Nat.blt b a = decide (b < a) := by
      by_cases h : b < a
      · rw [decide_eq_true h]; exact Nat.ble_eq_true_of_le h
      · rw [decide_eq_false h]
        cases q : Nat.blt b a with
        | false => rfl
        | true => exact absurd (Nat.le_of_ble_eq_true q) h
    unfold leN
    rw [h1, h2, leN_eq r q]
    by_cases x : a < b
    · rw [if_pos (by simpa using x)]
      exact (decide_eq_true (e.mpr (.inl x))).symm
    · rw [if_neg (by simpa using x)]
      by_cases z : b < a
      · rw [if_pos (by simpa using z)]
        exact (decide_eq_false fun h => by rcases e.mp h with h | ⟨h, _⟩ <;> omega).symm
      · rw [if_neg (by simpa using z)]
        have n : a = b := by omega
        by_cases w : r ≤ q
        · rw [decide_eq_true w]; exact (decide_eq_true (e.mpr (.inr ⟨n, w⟩))).symm
        · rw [decide_eq_false w]; exact (decide_eq_false fun h => by rcases e.mp h with h | ⟨_, h⟩; · omega
                                                                     · exact w h).symm
def insN (x : Str) : List Str → List Str
  | [] => [x]
  | y :: r => if leN x.cps.toList y.cps.toList then x :: y :: r else y :: insN x r
def ordI : List Str → List Str
  | [] => []
  | x :: r => insN x (ordI r)
theorem le_tr {a b c : List Nat} (h : leN a b = true) (k : leN b c = true) : leN a c = true := by
  rw [leN_eq, decide_eq_true_eq] at *
  exact List.le_trans h k
theorem le_tot (a b : List Nat) : (leN a b || leN b a) = true := by
  rw [leN_eq, leN_eq, Bool.or_eq_true, decide_eq_true_eq, decide_eq_true_eq]
  exact List.le_total a b
theorem insN_perm (x : Str) : ∀ l : List Str, (insN x l).Perm (x :: l)
  | [] => .refl _
  | y :: r => by
    unfold insN
    split
    · exact .refl _
    · exact ((insN_perm x r).cons y).trans (.swap x y r)
theorem ordI_perm : ∀ l : List Str, (ordI l).Perm l
  | [] => .refl _
  | x :: r => (insN_perm x _).trans ((ordI_perm r).cons x)
theorem insN_sorted (x : Str) : ∀ {l : List Str}, l.Pairwise (fun a b => leN a.cps.toList b.cps.toList = true) → (insN x l).Pairwise (fun a b => leN a.cps.toList b.cps.toList = true)
  | [], _ => .cons (fun _ h => by cases h) .nil
  | y :: r, h => by
    unfold insN
    cases h with
    | cons h1 h2 =>
      split
      · rename_i z
        refine .cons (fun a ha => ?_) (.cons h1 h2)
        rcases List.mem_cons.mp ha with e | e
        · subst e; exact z
        · exact le_tr z (h1 a e)
      · rename_i z
        refine .cons (fun a ha => ?_) (insN_sorted x h2)
        rcases List.mem_cons.mp ((insN_perm x r).mem_iff.mp ha) with e | e
        · subst e
          have t := le_tot a.cps.toList y.cps.toList
          simp only [Bool.or_eq_true] at t
          rcases t with t | t
          · exact absurd t z
          · exact t
        · exact h1 a e
theorem ordI_sorted : ∀ l : List Str, (ordI l).Pairwise (fun a b => leN a.cps.toList b.cps.toList = true)
  | [] => .nil
  | x :: r => insN_sorted x (ordI_sorted r)
theorem ordS_eq (l : List Str) : ordS l = ordI l := by
  have e : PySem.W.dataLe false PyData.str = fun a b : Str => leN a.cps.toList b.cps.toList := by
    have z := PySem.W.dataLe_str (β := Str) id
    have z : PySem.W.dataLe false PyData.str = fun a b : Str => decide (a.cps.toList ≤ b.cps.toList) := z
    rw [z]
    funext a b
    exact (leN_eq _ _).symm
  unfold ordS
  rw [e]
  refine List.Perm.eq_of_pairwise (le := fun a b => leN a.cps.toList b.cps.toList = true) (fun a b _ _ h k => ?_) (List.pairwise_mergeSort (le := fun a b : Str => leN a.cps.toList b.cps.toList) (fun a b c => le_tr) (fun a b => le_tot _ _) l) (ordI_sorted l) ((List.mergeSort_perm l _).trans (ordI_perm l).symm)
  have h1 : a.cps.toList ≤ b.cps.toList := by
    have h : leN a.cps.toList b.cps.toList = true := h
    rw [leN_eq, decide_eq_true_eq] at h; exact h
  have k1 : b.cps.toList ≤ a.cps.toList := by
    have k : leN b.cps.toList a.cps.toList = true := k
    rw [leN_eq, decide_eq_true_eq] at k; exact k
  have e2 : a.cps = b.cps := Array.toList_inj.mp (List.le_antisymm h1 k1)
  cases a; cases b; cases e2; rfl
def sortLI (n : Nat) (ks : List Str) : M D := if n ≤ line then M.ret (.lst ((ordI ks).map D.str)) else M.bad
def sortOI (n : Nat) : Option (List Str) → M D
  | some ks => sortLI n ks
  | none => M.bad
def sortMI : D → M D
  | .dct false l => sortOI l.length (keysS l)
  | _ => M.bad
def Dn.sortI (e : Den) : Den := .ofV fun ρ => do
  let x ← e.v ρ
  sortMI x
theorem sortM_eq (d : D) : sortM d = sortMI d := by
  cases d <;> first | rfl | skip
  rename_i k l
  cases k
  · show sortO l.length (keysS l) = sortOI l.length (keysS l)
    cases keysS l with
    | none => rfl
    | some ks =>
      show sortL l.length ks = sortLI l.length ks
      unfold sortL sortLI
      rw [ordS_eq]
  · rfl
theorem Dn.sortI_eq (e : Den) : Dn.sortK e = Dn.sortI e := by
  unfold Dn.sortK Dn.sortI
  congr 1
  funext ρ
  congr 1
  funext x
  exact sortM_eq x
section
variable {ca : CA} {Wx : WX} {X : Cx} {e : Expr} {n : Den} {pos p kpos lpos p1 p2 p3 : Pos} {x : Str} {params : Arguments} {scope : Scope}
theorem Sd.sortI {c P : Addr} {k : Nat} (y : Cy X Wx) (hr : Room k X.A) (La : LamAt ca X c P) (L : LamStr x params scope) (h : Sd ca Wx X e n) (hse : isStar e = false) (hg : Gl X "sorted") (hm : X.mg "sorted" = none) (hms : X.mg "str" = none) (hdef : defaultsOf params X.env = ([], [])) :
    Sd ca Wx X (.Call (.Name "sorted" p) [e] [⟨some "key", .Lambda params (.Call (.Name "str" p1) [.Name x p2] [] p3) scope lpos, kpos⟩] pos) (Dn.sortI n) := by
  rw [← Dn.sortI_eq]
  exact Sd.sortK y hr La L h hse hg hm hms hdef
end
end Mp

/-! k18: the defs, printed by gen.py (own work). -/
namespace Kt
open PySem Mp
def formsL : Ents := [("go", "r"), ("any", "c"), ("look", "c")]
def b_is_integer : Sm := Dm.ret (Dn.and_ [(false, Dn.isi (Dn.var 0) .int), (false, Dn.not_ (Dn.isi (Dn.var 0) .bool))])
def d_is_integer : Fn := fnOf 1 1 b_is_integer
def b_is_within : Sm := Dm.ret (Dn.and_ [(false, Dn.call d_is_integer [(false, Dn.var 0)]), (false, Dn.chain .le .le (Dn.var 1) (Dn.var 0) (Dn.var 2))])
def d_is_within : Fn := fnOf 3 3 b_is_within
def b_is_word : Sm := Dm.cons (Dm.if_ (Dn.or_ [(false, Dn.not_ (Dn.isi (Dn.var 0) .str)), (false, Dn.not_ (Dn.chain .le .le (Dn.cst (.int 1)) (Dn.bi1 .len (Dn.var 0)) (Dn.cst (.int 8))))]) (Dm.ret (Dn.cst (.bl false))) (Dm.nil)) (Dm.ret (Dn.bi1 .all (Dn.lc [1] (.name 1) (Di.val (Dn.var 0)) [] (Dn.cmp .in_ (Dn.var 1) (Dn.cst (.str "abcdefghijklmnopqrstuvwxyz"))))))
def d_is_word : Fn := fnOf 1 2 b_is_word
def b_are_words : Sm := Dm.cons (Dm.if_ (Dn.or_ [(false, Dn.not_ (Dn.isi (Dn.var 0) .dict)), (false, Dn.not_ (Dn.chain .le .le (Dn.var 1) (Dn.bi1 .len (Dn.var 0)) (Dn.var 2)))]) (Dm.ret (Dn.cst (.bl false))) (Dm.nil)) (Dm.ret (Dn.bi1 .all (Dn.lc [3] (.name 3) (Di.val (Dn.var 0)) [] (Dn.call d_is_word [(false, Dn.var 3)]))))
def d_are_words : Fn := fnOf 3 4 b_are_words
def b_Program_levels : Sm := Dm.ret (Dn.attr "Program" (Dn.var 0) "own_levels")
def d_Program_levels : Fn := fnOf 1 1 b_Program_levels
def b_Program_size : Sm := Dm.ret (Dn.attr "Program" (Dn.var 0) "own_size")
def d_Program_size : Fn := fnOf 1 1 b_Program_size
def b_Program_main : Sm := Dm.ret (Dn.attr "Program" (Dn.var 0) "own_main")
def d_Program_main : Fn := fnOf 1 1 b_Program_main
def b_is_sign_part : Sm := Dm.cons (Dm.if_ (Dn.cmp .eq (Dn.var 1) (Dn.cst (.str "c"))) (Dm.ret (Dn.and_ [(false, Dn.call d_is_word [(false, Dn.var 2)]), (false, Dn.cmp .in_ (Dn.var 2) (Dn.attr "Program" (Dn.var 0) "firsts"))])) (Dm.nil)) (Dm.cons (Dm.if_ (Dn.cmp .eq (Dn.var 1) (Dn.cst (.str "v"))) (Dm.ret (Dn.call d_is_within [(false, Dn.var 2), (false, Dn.cst (.int 0)), (false, Dn.bin .sub (Dn.prop "Program" d_Program_size (Dn.var 0)) (Dn.cst (.int 1)))])) (Dm.nil)) (Dm.cons (Dm.if_ (Dn.cmp .eq (Dn.var 1) (Dn.cst (.str "r"))) (Dm.ret (Dn.call d_is_within [(false, Dn.var 2), (false, Dn.cst (.int 0)), (false, Dn.var 3)])) (Dm.nil)) (Dm.cons (Dm.if_ (Dn.cmp .eq (Dn.var 1) (Dn.cst (.str "p"))) (Dm.ret (Dn.and_ [(false, Dn.call d_is_word [(false, Dn.var 2)]), (false, Dn.cmp .in_ (Dn.var 2) (Dn.attr "Program" (Dn.var 0) "lists"))])) (Dm.nil)) (Dm.ret (Dn.ite (Dn.cmp .eq (Dn.var 1) (Dn.cst (.str "l"))) (Dn.call d_is_within [(false, Dn.var 2), (false, Dn.cst (.int 0)), (false, Dn.prop "Program" d_Program_levels (Dn.var 0))]) (Dn.call d_is_word [(false, Dn.var 2)]))))))
def d_is_sign_part : Fn := fnOf 4 4 b_is_sign_part
def b_is_row : Sm := Dm.cons (Dm.if_ (Dn.or_ [(false, Dn.not_ (Dn.isi (Dn.var 1) .tuple)), (false, Dn.cmp .eq (Dn.var 1) (Dn.tup [])), (false, Dn.not_ (Dn.isi (Dn.idx (Dn.var 1) (Dn.cst (.int 0))) .str)), (false, Dn.ninG formsL (Dn.idx (Dn.var 1) (Dn.cst (.int 0))))]) (Dm.ret (Dn.cst (.bl false))) (Dm.nil)) (Dm.cons (Dm.asg (.name 3) (Dn.ixG formsL (Dn.idx (Dn.var 1) (Dn.cst (.int 0))))) (Dm.cons (Dm.if_ (Dn.or_ [(false, Dn.cmp .ne (Dn.bi1 .len (Dn.var 1)) (Dn.bin .add (Dn.bi1 .len (Dn.var 3)) (Dn.cst (.int 1)))), (false, Dn.and_ [(false, Dn.cmp .eq (Dn.idx (Dn.var 1) (Dn.cst (.int 0))) (Dn.cst (.str "save"))), (false, Dn.cmp .ge (Dn.prop "Program" d_Program_levels (Dn.var 0)) (Dn.prop "Program" d_Program_size (Dn.var 0)))])]) (Dm.ret (Dn.cst (.bl false))) (Dm.nil)) (Dm.ret (Dn.bi1 .all (Dn.lc [4, 5] (.names [4, 5]) (Di.zipS (Dn.var 3) (Dn.sli (Dn.var 1) (some (Dn.cst (.int 1))) none)) [] (Dn.call d_is_sign_part [(false, Dn.var 0), (false, Dn.var 4), (false, Dn.var 5), (false, Dn.var 2)]))))))
def d_is_row : Fn := fnOf 3 6 b_is_row
def b_sections_of : Sm := Dm.cons (Dm.asg (.name 1) (Dn.dct false [] [])) (Dm.cons (Dm.for_ (.name 2) (Di.vals (Dn.var 0)) (Dm.for_ (.name 3) (Di.val (Dn.var 2)) (Dm.if_ (Dn.cmp .in_ (Dn.idx (Dn.var 3) (Dn.cst (.int 0))) (Dn.tup [(false, Dn.cst (.str "open")), (false, Dn.cst (.str "close"))])) (Dm.never) (Dm.nil)))) (Dm.ret (Dn.sortI (Dn.var 1))))
def d_sections_of : Fn := fnOf 1 4 b_sections_of
def b_has_ring : Sm := Dm.cons (Dm.asg (.name 1) (Dn.dc false [2] (.name 2) (Di.val (Dn.var 0)) [] (Dn.var 2) (Dn.lc [3] (.name 3) (Di.val (Dn.idx (Dn.var 0) (Dn.var 2))) [(false, Dn.cmp .eq (Dn.idx (Dn.var 3) (Dn.cst (.int 0))) (Dn.cst (.str "call")))] (Dn.bad)))) (Dm.cons (Dm.while_ 4 (Dn.var 1) (Dm.cons (Dm.asg (.name 4) (Dn.lc [2] (.name 2) (Di.val (Dn.var 1)) [(false, Dn.not_ (Dn.bi1 .any (Dn.lc [5] (.name 5) (Di.val (Dn.idx (Dn.var 1) (Dn.var 2))) [] (Dn.bad))))] (Dn.var 2))) (Dm.cons (Dm.if_ (Dn.cmp .eq (Dn.var 4) (Dn.lst [])) (Dm.ret (Dn.cst (.bl true))) (Dm.nil)) (Dm.asg (.name 1) (Dn.dc false [2] (.name 2) (Di.val (Dn.var 1)) [(false, Dn.cmp .nin (Dn.var 2) (Dn.var 4))] (Dn.var 2) (Dn.idx (Dn.var 1) (Dn.var 2))))))) (Dm.ret (Dn.cst (.bl false))))
def d_has_ring : Fn := fnOf 1 6 b_has_ring
def b_Program_spots : Sm := Dm.ret (Dn.lc2 [1, 2] (.name 1) (Di.val (Dn.attr "Program" (Dn.var 0) "lists")) [2] (.name 2) (Di.range1 (Dn.bin .add (Dn.bi1 .len (Dn.idx (Dn.attr "Program" (Dn.var 0) "lists") (Dn.var 1))) (Dn.cst (.int 1)))) (Dn.tup [(false, Dn.var 1), (false, Dn.var 2)]))
def d_Program_spots : Fn := fnOf 1 3 b_Program_spots
def b_Program_keep_rows : Sm := Dm.cons (Dm.for_ (.name 2) (Di.val (Dn.sortI (Dn.var 1))) (Dm.cons (Dm.if_ (Dn.or_ [(false, Dn.not_ (Dn.isi (Dn.idx (Dn.var 1) (Dn.var 2)) .list)), (false, Dn.cmp .gt (Dn.bi1 .len (Dn.idx (Dn.var 1) (Dn.var 2))) (Dn.cst (.int 24)))]) (Dm.ret (Dn.cst (.bl false))) (Dm.nil)) (Dm.setI (Dn.attr "Program" (Dn.var 0) "lists") (Dn.var 2) (Dn.bi1 .list (Dn.idx (Dn.var 1) (Dn.var 2)))))) (Dm.cons (Dm.frzF 0 "lists") (Dm.cons (Dm.for_ (.name 2) (Di.val (Dn.attr "Program" (Dn.var 0) "lists")) (Dm.cons (Dm.asg (.name 3) (Dn.bi1 .len (Dn.idx (Dn.attr "Program" (Dn.var 0) "lists") (Dn.var 2)))) (Dm.if_ (Dn.not_ (Dn.bi1 .all (Dn.lc [4] (.name 4) (Di.val (Dn.idx (Dn.attr "Program" (Dn.var 0) "lists") (Dn.var 2))) [] (Dn.call d_is_row [(false, Dn.var 0), (false, Dn.var 4), (false, Dn.var 3)])))) (Dm.ret (Dn.cst (.bl false))) (Dm.nil)))) (Dm.ret (Dn.cst (.bl true)))))
def d_Program_keep_rows : Fn := fnOf 2 5 b_Program_keep_rows
def b_Program_is_served : Sm := Dm.cons (Dm.if_ (Dn.or_ [(false, Dn.not_ (Dn.isi (Dn.var 1) .tuple)), (false, Dn.cmp .ne (Dn.bi1 .len (Dn.var 1)) (Dn.cst (.int 2))), (false, Dn.not_ (Dn.call d_is_within [(false, Dn.idx (Dn.var 1) (Dn.cst (.int 0))), (false, Dn.cst (.int 1)), (false, Dn.attr "Program" (Dn.var 0) "own_levels")]))]) (Dm.ret (Dn.cst (.bl false))) (Dm.nil)) (Dm.ret (Dn.and_ [(false, Dn.call d_is_word [(false, Dn.idx (Dn.var 1) (Dn.cst (.int 1)))]), (false, Dn.cmp .in_ (Dn.idx (Dn.var 1) (Dn.cst (.int 1))) (Dn.attr "Program" (Dn.var 0) "lists"))]))
def d_Program_is_served : Fn := fnOf 2 2 b_Program_is_served
def b_Program_are_guards : Sm := Dm.cons (Dm.if_ (Dn.not_ (Dn.isi (Dn.var 1) .dict)) (Dm.ret (Dn.cst (.bl false))) (Dm.nil)) (Dm.ret (Dn.bi1 .all (Dn.lc [2] (.name 2) (Di.val (Dn.var 1)) [] (Dn.bad))))
def d_Program_are_guards : Fn := fnOf 2 3 b_Program_are_guards
def b_Program___init__ : Sm := Dm.cons (Dm.if_ (Dn.not_ (Dn.call d_is_within [(false, Dn.var 1), (false, Dn.cst (.int 1)), (false, Dn.cst (.int 4))])) (Dm.never) (Dm.nil)) (Dm.cons (Dm.if_ (Dn.not_ (Dn.call d_is_within [(false, Dn.var 2), (false, Dn.cst (.int 2)), (false, Dn.cst (.int 6))])) (Dm.never) (Dm.nil)) (Dm.cons (Dm.setA "Program" (Dn.var 0) "own_levels" (Dn.var 1)) (Dm.cons (Dm.setA "Program" (Dn.var 0) "own_size" (Dn.var 2)) (Dm.cons (Dm.if_ (Dn.or_ [(false, Dn.not_ (Dn.call d_are_words [(false, Dn.var 3), (false, Dn.cst (.int 1)), (false, Dn.cst (.int 6))])), (false, Dn.not_ (Dn.bi1 .all (Dn.lc [8] (.name 8) (Di.val (Dn.var 3)) [] (Dn.call d_is_within [(false, Dn.idx (Dn.var 3) (Dn.var 8)), (false, Dn.cst (.int 0)), (false, Dn.bin .sub (Dn.var 2) (Dn.cst (.int 1)))]))))]) (Dm.never) (Dm.nil)) (Dm.cons (Dm.asg (.name 9) (Dn.cst (.int 1))) (Dm.cons (Dm.for_ (.name 8) (Di.val (Dn.var 3)) (Dm.asg (.name 9) (Dn.bin .mul (Dn.var 9) (Dn.var 2)))) (Dm.cons (Dm.if_ (Dn.cmp .gt (Dn.var 9) (Dn.cst (.int 256))) (Dm.never) (Dm.nil)) (Dm.cons (Dm.setA "Program" (Dn.var 0) "firsts" (Dn.dc false [8] (.name 8) (Di.val (Dn.sortI (Dn.var 3))) [] (Dn.var 8) (Dn.idx (Dn.var 3) (Dn.var 8)))) (Dm.cons (Dm.setA "Program" (Dn.var 0) "lists" (Dn.loc (Dn.dct false [] []))) (Dm.cons (Dm.if_ (Dn.or_ [(false, Dn.not_ (Dn.call d_are_words [(false, Dn.var 4), (false, Dn.cst (.int 1)), (false, Dn.cst (.int 12))])), (false, Dn.not_ (Dn.meth "Program" "keep_rows" d_Program_keep_rows (Dn.var 0) [(false, Dn.var 4)]))]) (Dm.never) (Dm.nil)) (Dm.cons (Dm.setA "Program" (Dn.var 0) "own_sections" (Dn.call d_sections_of [(false, Dn.attr "Program" (Dn.var 0) "lists")])) (Dm.cons (Dm.if_ (Dn.or_ [(false, Dn.cmp .gt (Dn.bi1 .len (Dn.attr "Program" (Dn.var 0) "own_sections")) (Dn.cst (.int 3))), (false, Dn.call d_has_ring [(false, Dn.attr "Program" (Dn.var 0) "lists")])]) (Dm.never) (Dm.nil)) (Dm.cons (Dm.if_ (Dn.bi1 .any (Dn.lc [10] (.name 10) (Di.val (Dn.attr "Program" (Dn.var 0) "own_sections")) [] (Dn.cmp .in_ (Dn.var 10) (Dn.attr "Program" (Dn.var 0) "firsts")))) (Dm.never) (Dm.nil)) (Dm.cons (Dm.if_ (Dn.or_ [(false, Dn.not_ (Dn.call d_are_words [(false, Dn.var 5), (false, Dn.cst (.int 0)), (false, Dn.cst (.int 6))])), (false, Dn.not_ (Dn.bi1 .all (Dn.lc [11] (.name 11) (Di.val (Dn.var 5)) [] (Dn.meth "Program" "is_served" d_Program_is_served (Dn.var 0) [(false, Dn.idx (Dn.var 5) (Dn.var 11))]))))]) (Dm.never) (Dm.nil)) (Dm.cons (Dm.setA "Program" (Dn.var 0) "own_lines" (Dn.dc false [11] (.name 11) (Di.val (Dn.sortI (Dn.var 5))) [] (Dn.var 11) (Dn.idx (Dn.var 5) (Dn.var 11)))) (Dm.cons (Dm.if_ (Dn.or_ [(false, Dn.not_ (Dn.call d_is_word [(false, Dn.var 6)])), (false, Dn.cmp .nin (Dn.var 6) (Dn.attr "Program" (Dn.var 0) "lists"))]) (Dm.never) (Dm.nil)) (Dm.cons (Dm.setA "Program" (Dn.var 0) "own_main" (Dn.var 6)) (Dm.cons (Dm.setA "Program" (Dn.var 0) "own_guards" (Dn.dct false [] [])) (Dm.cons (Dm.if_ (Dn.not_ (Dn.meth "Program" "are_guards" d_Program_are_guards (Dn.var 0) [(false, Dn.ite (Dn.cmp .is_ (Dn.var 7) (Dn.cst .non)) (Dn.dct false [] []) (Dn.var 7))])) (Dm.never) (Dm.nil)) (Dm.cons (Dm.asg (.name 12) (Dn.ite (Dn.cmp .is_ (Dn.var 7) (Dn.cst .non)) (Dn.dct true [] []) (Dn.var 7))) (Dm.setA "Program" (Dn.var 0) "own_guards" (Dn.dc true [13] (.name 13) (Di.val (Dn.meth "Program" "spots" d_Program_spots (Dn.var 0) [])) [(false, Dn.cmp .in_ (Dn.var 13) (Dn.var 12))] (Dn.var 13) (Dn.idx (Dn.var 12) (Dn.var 13))))))))))))))))))))))))
def d_Program___init__ : Fn := fnOf 8 14 b_Program___init__
def b_Program_first_store : Sm := Dm.ret (Dn.tup [(true, Dn.vals (Dn.attr "Program" (Dn.var 0) "firsts")), (true, Dn.lc [1] (.name 1) (Di.val (Dn.attr "Program" (Dn.var 0) "own_sections")) [] (Dn.cst (.int 0)))])
def d_Program_first_store : Fn := fnOf 1 2 b_Program_first_store
def b_check_program : Sm := Dm.if_ (Dn.not_ (Dn.isi (Dn.var 0) (.cls "Program"))) (Dm.never) (Dm.nil)
def d_check_program : Fn := fnOf 1 1 b_check_program
def b_serving : Sm := Dm.cons (Dm.asg (.name 4) (Dn.getD (Dn.attr "Program" (Dn.var 0) "own_guards") (Dn.tup [(false, Dn.var 1), (false, Dn.var 2)]) (Dn.cst (.int 0)))) (Dm.cons (Dm.asg (.name 5) (Dn.ite (Dn.cmp .gt (Dn.var 3) (Dn.var 4)) (Dn.var 3) (Dn.var 4))) (Dm.cons (Dm.own 6 (Dn.lst [])) (Dm.cons (Dm.for_ (.name 7) (Di.range3 (Dn.prop "Program" d_Program_levels (Dn.var 0)) (Dn.var 5) (Dn.neg (Dn.cst (.int 1)))) (Dm.ext 6 (Dn.lc [8] (.name 8) (Di.val (Dn.attr "Program" (Dn.var 0) "own_lines")) [(false, Dn.cmp .eq (Dn.idx (Dn.idx (Dn.attr "Program" (Dn.var 0) "own_lines") (Dn.var 8)) (Dn.cst (.int 0))) (Dn.var 7))] (Dn.var 8)))) (Dm.cons (Dm.frz 6) (Dm.ret (Dn.var 6))))))
def d_serving : Fn := fnOf 4 9 b_serving
def b_callee_at : Sm := Dm.cons (Dm.asg (.name 3) (Dn.idx (Dn.attr "Program" (Dn.var 0) "lists") (Dn.var 1))) (Dm.ret (Dn.ite (Dn.and_ [(false, Dn.cmp .lt (Dn.var 2) (Dn.bi1 .len (Dn.var 3))), (false, Dn.cmp .eq (Dn.idx (Dn.idx (Dn.var 3) (Dn.var 2)) (Dn.cst (.int 0))) (Dn.cst (.str "call")))]) (Dn.idx (Dn.idx (Dn.var 3) (Dn.var 2)) (Dn.cst (.int 1))) (Dn.cst .non)))
def d_callee_at : Fn := fnOf 3 4 b_callee_at
def b_at_cell : Sm := Dm.ret (Dn.index (Dn.bi1 .list (Dn.attr "Program" (Dn.var 0) "firsts")) (Dn.var 1))
def d_at_cell : Fn := fnOf 2 2 b_at_cell
def b_put_in : Sm := Dm.ret (Dn.tup [(true, Dn.sli (Dn.var 0) none (some (Dn.var 1))), (false, Dn.var 2), (true, Dn.sli (Dn.var 0) (some (Dn.bin .add (Dn.var 1) (Dn.cst (.int 1)))) none)])
def d_put_in : Fn := fnOf 3 3 b_put_in
def b_changed_store : Sm := Dm.cons (Dm.asg (.name 3) (Dn.idx (Dn.var 1) (Dn.cst (.int 0)))) (Dm.cons (Dm.if_ (Dn.cmp .in_ (Dn.var 3) (Dn.tup [(false, Dn.cst (.str "open")), (false, Dn.cst (.str "close"))])) (Dm.never) (Dm.nil)) (Dm.cons (Dm.asg (.name 4) (Dn.call d_at_cell [(false, Dn.var 0), (false, Dn.idx (Dn.var 1) (Dn.cst (.int 1)))])) (Dm.cons (Dm.if_ (Dn.cmp .eq (Dn.var 3) (Dn.cst (.str "any"))) (Dm.ret (Dn.lc [5] (.name 5) (Di.range1 (Dn.prop "Program" d_Program_size (Dn.var 0))) [] (Dn.tup [(false, Dn.call d_put_in [(false, Dn.var 2), (false, Dn.var 4), (false, Dn.var 5)]), (false, Dn.var 5)]))) (Dm.nil)) (Dm.cons (Dm.never) (Dm.cons (Dm.never) (Dm.ret (Dn.lst [(false, Dn.tup [(false, Dn.call d_put_in [(false, Dn.var 2), (false, Dn.var 4), (false, Dn.var 5)]), (false, Dn.cst (.int 0))])])))))))
def d_changed_store : Fn := fnOf 3 6 b_changed_store
def b_points_behind : Sm := Dm.cons (Dm.asg (.name 4) (Dn.idx (Dn.var 1) (Dn.cst (.int 0)))) (Dm.cons (Dm.if_ (Dn.cmp .eq (Dn.var 4) (Dn.cst (.str "go"))) (Dm.ret (Dn.lst [(false, Dn.tup [(false, Dn.idx (Dn.var 1) (Dn.cst (.int 1))), (false, Dn.cst (.int 0))])])) (Dm.nil)) (Dm.cons (Dm.if_ (Dn.cmp .eq (Dn.var 4) (Dn.cst (.str "either"))) (Dm.never) (Dm.nil)) (Dm.cons (Dm.if_ (Dn.and_ [(false, Dn.cmp .eq (Dn.var 4) (Dn.cst (.str "if"))), (false, Dn.bad)]) (Dm.never) (Dm.nil)) (Dm.ret (Dn.lst [(false, Dn.tup [(false, Dn.bin .add (Dn.var 2) (Dn.cst (.int 1))), (false, Dn.cst (.int 0))])])))))
def d_points_behind : Fn := fnOf 4 5 b_points_behind
def b_row_ways : Sm := Dm.cons (Dm.asg (.name 7) (Dn.idx (Dn.idx (Dn.attr "Program" (Dn.var 0) "lists") (Dn.var 1)) (Dn.var 2))) (Dm.cons (Dm.if_ (Dn.cmp .in_ (Dn.idx (Dn.var 7) (Dn.cst (.int 0))) (Dn.tup [(false, Dn.cst (.str "keep")), (false, Dn.cst (.str "give")), (false, Dn.cst (.str "raise")), (false, Dn.cst (.str "mask")), (false, Dn.cst (.str "load"))])) (Dm.never) (Dm.nil)) (Dm.cons (Dm.if_ (Dn.cmp .eq (Dn.idx (Dn.var 7) (Dn.cst (.int 0))) (Dn.cst (.str "save"))) (Dm.never) (Dm.nil)) (Dm.cons (Dm.if_ (Dn.cmp .in_ (Dn.idx (Dn.var 7) (Dn.cst (.int 0))) (Dn.tup [(false, Dn.cst (.str "set")), (false, Dn.cst (.str "copy")), (false, Dn.cst (.str "add")), (false, Dn.cst (.str "any")), (false, Dn.cst (.str "open")), (false, Dn.cst (.str "close"))])) (Dm.ret (Dn.lc [10, 11] (.names [10, 11]) (Di.val (Dn.call d_changed_store [(false, Dn.var 0), (false, Dn.var 7), (false, Dn.var 4)])) [] (Dn.tup [(false, Dn.bin .add (Dn.var 2) (Dn.cst (.int 1))), (false, Dn.var 3), (false, Dn.var 10), (false, Dn.var 5), (false, Dn.var 11)]))) (Dm.nil)) (Dm.ret (Dn.lc [10, 11] (.names [10, 11]) (Di.val (Dn.call d_points_behind [(false, Dn.var 0), (false, Dn.var 7), (false, Dn.var 2), (false, Dn.var 4)])) [] (Dn.tup [(false, Dn.var 10), (false, Dn.var 3), (false, Dn.var 4), (false, Dn.var 5), (false, Dn.var 11)]))))))
def d_row_ways : Fn := fnOf 7 12 b_row_ways
def b_first_state : Sm := Dm.ret (Dn.tup [(false, Dn.meth "Program" "first_store" d_Program_first_store (Dn.var 0) []), (false, Dn.cst (.int 0)), (false, Dn.tup [(false, Dn.tup [(false, Dn.cst (.int 0)), (false, Dn.cst (.int 0)), (false, Dn.tup [(false, Dn.tup [(false, Dn.prop "Program" d_Program_main (Dn.var 0)), (false, Dn.cst (.int 0)), (false, Dn.cst (.int 0))])])])])])
def d_first_state : Fn := fnOf 1 1 b_first_state
def b_place_in : Sm := Dm.cons (Dm.asg (.names [1, 2, 3]) (Dn.var 0)) (Dm.cons (Dm.asg (.names [4, 5, 6]) (Dn.idx (Dn.var 3) (Dn.neg (Dn.cst (.int 1))))) (Dm.ret (Dn.tup [(true, Dn.idx (Dn.var 6) (Dn.neg (Dn.cst (.int 1)))), (false, Dn.var 1), (false, Dn.var 2), (false, Dn.var 4)])))
def d_place_in : Fn := fnOf 1 7 b_place_in
def b_frames_in : Sm := Dm.ret (Dn.lc2 [1, 2, 3, 4] (.names [1, 2, 3]) (Di.val (Dn.idx (Dn.var 0) (Dn.cst (.int 2)))) [4] (.name 4) (Di.val (Dn.var 3)) (Dn.var 4))
def d_frames_in : Fn := fnOf 1 5 b_frames_in
def b_is_resting : Sm := Dm.cons (Dm.asg (.names [2, 3, 4]) (Dn.idx (Dn.idx (Dn.idx (Dn.idx (Dn.var 1) (Dn.cst (.int 2))) (Dn.neg (Dn.cst (.int 1)))) (Dn.cst (.int 2))) (Dn.neg (Dn.cst (.int 1))))) (Dm.ret (Dn.and_ [(false, Dn.cmp .eq (Dn.bi1 .len (Dn.call d_frames_in [(false, Dn.var 1)])) (Dn.cst (.int 1))), (false, Dn.cmp .eq (Dn.var 3) (Dn.bi1 .len (Dn.idx (Dn.attr "Program" (Dn.var 0) "lists") (Dn.var 2))))]))
def d_is_resting : Fn := fnOf 2 5 b_is_resting
def b_begin_line : Sm := Dm.cons (Dm.asg (.names [3, 4, 5]) (Dn.var 1)) (Dm.cons (Dm.asg (.names [6, 7]) (Dn.idx (Dn.attr "Program" (Dn.var 0) "own_lines") (Dn.var 2))) (Dm.ret (Dn.tup [(false, Dn.var 3), (false, Dn.var 6), (false, Dn.tup [(true, Dn.var 5), (false, Dn.tup [(false, Dn.var 6), (false, Dn.var 4), (false, Dn.tup [(false, Dn.tup [(false, Dn.var 7), (false, Dn.cst (.int 0)), (false, Dn.cst (.int 0))])])])])])))
def d_begin_line : Fn := fnOf 3 8 b_begin_line
def b_come_back : Sm := Dm.cons (Dm.asg (.names [1, 2, 3]) (Dn.var 0)) (Dm.cons (Dm.asg (.names [4, 5, 6]) (Dn.idx (Dn.var 3) (Dn.neg (Dn.cst (.int 1))))) (Dm.cons (Dm.if_ (Dn.cmp .gt (Dn.bi1 .len (Dn.var 6)) (Dn.cst (.int 1))) (Dm.never) (Dm.nil)) (Dm.ret (Dn.tup [(false, Dn.var 1), (false, Dn.var 5), (false, Dn.sli (Dn.var 3) none (some (Dn.neg (Dn.cst (.int 1)))))]))))
def d_come_back : Fn := fnOf 1 7 b_come_back
def b_with_frames : Sm := Dm.cons (Dm.asg (.name 4) (Dn.idx (Dn.var 0) (Dn.cst (.int 2)))) (Dm.cons (Dm.asg (.names [5, 6, 7]) (Dn.idx (Dn.var 4) (Dn.neg (Dn.cst (.int 1))))) (Dm.ret (Dn.tup [(false, Dn.var 1), (false, Dn.var 2), (false, Dn.tup [(true, Dn.sli (Dn.var 4) none (some (Dn.neg (Dn.cst (.int 1))))), (false, Dn.tup [(false, Dn.var 5), (false, Dn.var 6), (false, Dn.var 3)])])])))
def d_with_frames : Fn := fnOf 4 8 b_with_frames
def b_rows_behind : Sm := Dm.cons (Dm.asg (.names [2, 3, 4, 5, 6, 7]) (Dn.call d_place_in [(false, Dn.var 1)])) (Dm.cons (Dm.asg (.name 8) (Dn.idx (Dn.idx (Dn.idx (Dn.var 1) (Dn.cst (.int 2))) (Dn.neg (Dn.cst (.int 1)))) (Dn.cst (.int 2)))) (Dm.cons (Dm.if_ (Dn.cmp .eq (Dn.var 3) (Dn.bi1 .len (Dn.idx (Dn.attr "Program" (Dn.var 0) "lists") (Dn.var 2)))) (Dm.ret (Dn.lst [(false, Dn.tup [(false, Dn.cst (.int 0)), (false, Dn.call d_come_back [(false, Dn.var 1)])])])) (Dm.nil)) (Dm.cons (Dm.asg (.name 9) (Dn.call d_callee_at [(false, Dn.var 0), (false, Dn.var 2), (false, Dn.var 3)])) (Dm.cons (Dm.if_ (Dn.cmp .isn (Dn.var 9) (Dn.cst .non)) (Dm.never) (Dm.nil)) (Dm.cons (Dm.own 11 (Dn.lst [])) (Dm.cons (Dm.for_ (.names [12, 13, 14, 15, 16]) (Di.val (Dn.call d_row_ways [(false, Dn.var 0), (false, Dn.var 2), (false, Dn.var 3), (false, Dn.var 4), (false, Dn.var 5), (false, Dn.var 6), (false, Dn.var 7)])) (Dm.app 11 (Dn.tup [(false, Dn.var 16), (false, Dn.call d_with_frames [(false, Dn.var 1), (false, Dn.var 14), (false, Dn.var 15), (false, Dn.tup [(true, Dn.sli (Dn.var 8) none (some (Dn.neg (Dn.cst (.int 1))))), (false, Dn.tup [(false, Dn.var 2), (false, Dn.var 12), (false, Dn.var 13)])])])]))) (Dm.cons (Dm.frz 11) (Dm.ret (Dn.var 11)))))))))
def d_rows_behind : Fn := fnOf 2 17 b_rows_behind
def b_all_moves : Sm := Dm.cons (Dm.asg (.names [2, 3, 4, 5, 6, 7]) (Dn.call d_place_in [(false, Dn.var 1)])) (Dm.cons (Dm.asg (.name 8) (Dn.lc [9] (.name 9) (Di.val (Dn.call d_serving [(false, Dn.var 0), (false, Dn.var 2), (false, Dn.var 3), (false, Dn.var 6)])) [] (Dn.tup [(false, Dn.tup [(false, Dn.cst (.str "serve")), (false, Dn.var 9)]), (false, Dn.call d_begin_line [(false, Dn.var 0), (false, Dn.var 1), (false, Dn.var 9)])]))) (Dm.cons (Dm.if_ (Dn.call d_is_resting [(false, Dn.var 0), (false, Dn.var 1)]) (Dm.ret (Dn.var 8)) (Dm.nil)) (Dm.ret (Dn.bin .add (Dn.var 8) (Dn.lc [10, 11] (.names [10, 11]) (Di.val (Dn.call d_rows_behind [(false, Dn.var 0), (false, Dn.var 1)])) [] (Dn.tup [(false, Dn.tup [(false, Dn.cst (.str "row")), (false, Dn.var 10)]), (false, Dn.var 11)]))))))
def d_all_moves : Fn := fnOf 2 12 b_all_moves
def b_state_behind : Sm := Dm.cons (Dm.for_ (.names [3, 4]) (Di.val (Dn.call d_all_moves [(false, Dn.var 0), (false, Dn.var 1)])) (Dm.if_ (Dn.cmp .eq (Dn.var 3) (Dn.var 2)) (Dm.ret (Dn.var 4)) (Dm.nil))) (Dm.ret (Dn.cst .non))
def d_state_behind : Fn := fnOf 3 5 b_state_behind
def b_is_move : Sm := Dm.cons (Dm.if_ (Dn.or_ [(false, Dn.not_ (Dn.isi (Dn.var 0) .tuple)), (false, Dn.cmp .ne (Dn.bi1 .len (Dn.var 0)) (Dn.cst (.int 2))), (false, Dn.not_ (Dn.isi (Dn.idx (Dn.var 0) (Dn.cst (.int 0))) .str))]) (Dm.ret (Dn.cst (.bl false))) (Dm.nil)) (Dm.ret (Dn.or_ [(false, Dn.and_ [(false, Dn.cmp .eq (Dn.idx (Dn.var 0) (Dn.cst (.int 0))) (Dn.cst (.str "serve"))), (false, Dn.call d_is_word [(false, Dn.idx (Dn.var 0) (Dn.cst (.int 1)))])]), (false, Dn.and_ [(false, Dn.cmp .eq (Dn.idx (Dn.var 0) (Dn.cst (.int 0))) (Dn.cst (.str "row"))), (false, Dn.call d_is_integer [(false, Dn.idx (Dn.var 0) (Dn.cst (.int 1)))])])]))
def d_is_move : Fn := fnOf 1 1 b_is_move
def b_after_move : Sm := Dm.ret (Dn.ite (Dn.call d_is_move [(false, Dn.var 2)]) (Dn.call d_state_behind [(false, Dn.var 0), (false, Dn.var 1), (false, Dn.var 2)]) (Dn.cst .non))
def d_after_move : Fn := fnOf 3 3 b_after_move
def b_states_of : Sm := Dm.cons (Dm.drop (Dn.call d_check_program [(false, Dn.var 0)])) (Dm.cons (Dm.asg (.name 1) (Dn.call d_first_state [(false, Dn.var 0)])) (Dm.cons (Dm.own 2 (Dn.dct true [(false, Dn.var 1)] [(false, Dn.call d_all_moves [(false, Dn.var 0), (false, Dn.var 1)])])) (Dm.cons (Dm.own 3 (Dn.lst [(false, Dn.var 1)])) (Dm.cons (Dm.asg (.name 4) (Dn.cst (.int 0))) (Dm.cons (Dm.while_ 30000 (Dn.cmp .lt (Dn.var 4) (Dn.bi1 .len (Dn.var 3))) (Dm.cons (Dm.for_ (.names [5, 6]) (Di.val (Dn.idx (Dn.var 2) (Dn.idx (Dn.var 3) (Dn.var 4)))) (Dm.if_ (Dn.cmp .nin (Dn.var 6) (Dn.var 2)) (Dm.cons (Dm.setI (Dn.var 2) (Dn.var 6) (Dn.call d_all_moves [(false, Dn.var 0), (false, Dn.var 6)])) (Dm.app 3 (Dn.var 6))) (Dm.nil))) (Dm.cons (Dm.if_ (Dn.cmp .gt (Dn.bi1 .len (Dn.var 3)) (Dn.cst (.int 20000))) (Dm.raise "TooMany" "number" (Dn.bi1 .len (Dn.var 3))) (Dm.nil)) (Dm.asg (.name 4) (Dn.bin .add (Dn.var 4) (Dn.cst (.int 1))))))) (Dm.cons (Dm.frz 2) (Dm.ret (Dn.var 2))))))))
def d_states_of : Fn := fnOf 1 7 b_states_of
def b_many_states : Sm := Dm.ret (Dn.bi1 .len (Dn.call d_states_of [(false, Dn.var 0)]))
def d_many_states : Fn := fnOf 1 1 b_many_states
def b_small_enough : Sm := Dm.cons (Dm.if_ (Dn.cmp .gt (Dn.bin .mul (Dn.bi1 .len (Dn.var 0)) (Dn.var 1)) (Dn.cst (.int 200000))) (Dm.raise "TooMany" "number" (Dn.bin .mul (Dn.bi1 .len (Dn.var 0)) (Dn.var 1))) (Dm.nil)) (Dm.ret (Dn.var 0))
def d_small_enough : Fn := fnOf 2 2 b_small_enough
def b_Scripts_all_layers : Sm := Dm.cons (Dm.own 2 (Dn.lst [(false, Dn.dc true [3] (.name 3) (Di.val (Dn.var 1)) [] (Dn.var 3) (Dn.cst (.int 1)))])) (Dm.cons (Dm.for_ (.name 4) (Di.range1 (Dn.attr "Scripts" (Dn.var 0) "own_moves")) (Dm.cons (Dm.asg (.name 5) (Dn.idx (Dn.var 2) (Dn.neg (Dn.cst (.int 1))))) (Dm.app 2 (Dn.dc true [3] (.name 3) (Di.val (Dn.var 1)) [] (Dn.var 3) (Dn.bi1 .sum (Dn.lc [6, 7] (.names [6, 7]) (Di.val (Dn.idx (Dn.var 1) (Dn.var 3))) [] (Dn.idx (Dn.var 5) (Dn.var 7)))))))) (Dm.cons (Dm.frz 2) (Dm.ret (Dn.var 2))))
def d_Scripts_all_layers : Fn := fnOf 2 8 b_Scripts_all_layers
def b_Scripts___init__ : Sm := Dm.cons (Dm.drop (Dn.call d_check_program [(false, Dn.var 1)])) (Dm.cons (Dm.if_ (Dn.not_ (Dn.call d_is_within [(false, Dn.var 2), (false, Dn.cst (.int 0)), (false, Dn.cst (.int 1000))])) (Dm.never) (Dm.nil)) (Dm.cons (Dm.setA "Scripts" (Dn.var 0) "own_program" (Dn.var 1)) (Dm.cons (Dm.setA "Scripts" (Dn.var 0) "own_moves" (Dn.var 2)) (Dm.cons (Dm.setA "Scripts" (Dn.var 0) "own_first" (Dn.call d_first_state [(false, Dn.var 1)])) (Dm.setA "Scripts" (Dn.var 0) "layers" (Dn.meth "Scripts" "all_layers" d_Scripts_all_layers (Dn.var 0) [(false, Dn.call d_small_enough [(false, Dn.call d_states_of [(false, Dn.var 1)]), (false, Dn.var 2)])]))))))
def d_Scripts___init__ : Fn := fnOf 3 3 b_Scripts___init__
def b_Scripts_length : Sm := Dm.ret (Dn.attr "Scripts" (Dn.var 0) "own_moves")
def d_Scripts_length : Fn := fnOf 1 1 b_Scripts_length
def b_Scripts_amount : Sm := Dm.ret (Dn.idx (Dn.idx (Dn.attr "Scripts" (Dn.var 0) "layers") (Dn.neg (Dn.cst (.int 1)))) (Dn.attr "Scripts" (Dn.var 0) "own_first"))
def d_Scripts_amount : Fn := fnOf 1 1 b_Scripts_amount
def b_Scripts_end_of : Sm := Dm.cons (Dm.asg (.name 2) (Dn.attr "Scripts" (Dn.var 0) "own_first")) (Dm.cons (Dm.for_ (.name 3) (Di.val (Dn.var 1)) (Dm.cons (Dm.asg (.name 2) (Dn.call d_after_move [(false, Dn.attr "Scripts" (Dn.var 0) "own_program"), (false, Dn.var 2), (false, Dn.var 3)])) (Dm.if_ (Dn.cmp .is_ (Dn.var 2) (Dn.cst .non)) (Dm.ret (Dn.cst .non)) (Dm.nil)))) (Dm.ret (Dn.var 2)))
def d_Scripts_end_of : Fn := fnOf 2 4 b_Scripts_end_of
def b_Scripts___contains__ : Sm := Dm.ret (Dn.and_ [(false, Dn.isi (Dn.var 1) .list), (false, Dn.cmp .eq (Dn.bi1 .len (Dn.var 1)) (Dn.attr "Scripts" (Dn.var 0) "own_moves")), (false, Dn.cmp .isn (Dn.meth "Scripts" "end_of" d_Scripts_end_of (Dn.var 0) [(false, Dn.var 1)]) (Dn.cst .non))])
def d_Scripts___contains__ : Fn := fnOf 2 2 b_Scripts___contains__
def b_Scripts___getitem__ : Sm := Dm.cons (Dm.if_ (Dn.or_ [(false, Dn.not_ (Dn.call d_is_integer [(false, Dn.var 1)])), (false, Dn.not_ (Dn.chain .le .lt (Dn.cst (.int 0)) (Dn.var 1) (Dn.prop "Scripts" d_Scripts_amount (Dn.var 0))))]) (Dm.never) (Dm.nil)) (Dm.cons (Dm.asg (.name 2) (Dn.attr "Scripts" (Dn.var 0) "own_first")) (Dm.cons (Dm.asg (.name 3) (Dn.var 1)) (Dm.cons (Dm.own 4 (Dn.lst [])) (Dm.cons (Dm.for_ (.name 5) (Di.range3 (Dn.bin .sub (Dn.attr "Scripts" (Dn.var 0) "own_moves") (Dn.cst (.int 1))) (Dn.neg (Dn.cst (.int 1))) (Dn.neg (Dn.cst (.int 1)))) (Dm.for_ (.names [6, 7]) (Di.val (Dn.call d_all_moves [(false, Dn.attr "Scripts" (Dn.var 0) "own_program"), (false, Dn.var 2)])) (Dm.cons (Dm.if_ (Dn.cmp .lt (Dn.var 3) (Dn.idx (Dn.idx (Dn.attr "Scripts" (Dn.var 0) "layers") (Dn.var 5)) (Dn.var 7))) (Dm.cons (Dm.app 4 (Dn.var 6)) (Dm.cons (Dm.asg (.name 2) (Dn.var 7)) (Dm.brk))) (Dm.nil)) (Dm.asg (.name 3) (Dn.bin .sub (Dn.var 3) (Dn.idx (Dn.idx (Dn.attr "Scripts" (Dn.var 0) "layers") (Dn.var 5)) (Dn.var 7))))))) (Dm.cons (Dm.frz 4) (Dm.ret (Dn.var 4)))))))
def d_Scripts___getitem__ : Fn := fnOf 2 8 b_Scripts___getitem__
def b_Scripts_number_of : Sm := Dm.cons (Dm.if_ (Dn.not_ (Dn.isi (Dn.var 1) .list)) (Dm.never) (Dm.nil)) (Dm.cons (Dm.asg (.name 2) (Dn.attr "Scripts" (Dn.var 0) "own_first")) (Dm.cons (Dm.asg (.name 3) (Dn.cst (.int 0))) (Dm.cons (Dm.for_ (.names [4, 5]) (Di.enum (Dn.var 1)) (Dm.cons (Dm.asg (.name 6) (Dn.call d_after_move [(false, Dn.attr "Scripts" (Dn.var 0) "own_program"), (false, Dn.var 2), (false, Dn.var 5)])) (Dm.cons (Dm.if_ (Dn.or_ [(false, Dn.cmp .is_ (Dn.var 6) (Dn.cst .non)), (false, Dn.cmp .eq (Dn.var 4) (Dn.attr "Scripts" (Dn.var 0) "own_moves"))]) (Dm.never) (Dm.nil)) (Dm.cons (Dm.for_ (.names [7, 8]) (Di.val (Dn.call d_all_moves [(false, Dn.attr "Scripts" (Dn.var 0) "own_program"), (false, Dn.var 2)])) (Dm.cons (Dm.if_ (Dn.cmp .eq (Dn.var 7) (Dn.var 5)) (Dm.brk) (Dm.nil)) (Dm.asg (.name 3) (Dn.bin .add (Dn.var 3) (Dn.idx (Dn.idx (Dn.attr "Scripts" (Dn.var 0) "layers") (Dn.bin .sub (Dn.bin .sub (Dn.attr "Scripts" (Dn.var 0) "own_moves") (Dn.var 4)) (Dn.cst (.int 1)))) (Dn.var 8)))))) (Dm.asg (.name 2) (Dn.var 6)))))) (Dm.cons (Dm.if_ (Dn.cmp .lt (Dn.bi1 .len (Dn.var 1)) (Dn.attr "Scripts" (Dn.var 0) "own_moves")) (Dm.never) (Dm.nil)) (Dm.ret (Dn.var 3))))))
def d_Scripts_number_of : Fn := fnOf 2 9 b_Scripts_number_of
def b__law_numbers : Sm := Dm.cons (Dm.asg (.name 3) (Dn.bi2 .max (Dn.bi1 .int (Dn.var 0)) (Dn.bi1 .int (Dn.bin .sub (Dn.neg (Dn.cst (.int 1))) (Dn.var 0))))) (Dm.cons (Dm.asg (.name 4) (Dn.var 3)) (Dm.cons (Dm.own 5 (Dn.lst [])) (Dm.cons (Dm.for_ (.name 6) (Di.range1 (Dn.bi1 .len (Dn.var 2))) (Dm.if_ (Dn.and_ [(false, Dn.cmp .ge (Dn.var 3) (Dn.bin .pow (Dn.cst (.int 10)) (Dn.cst (.int 18)))), (false, Dn.cmp .gt (Dn.var 4) (Dn.cst (.int 0)))]) (Dm.cons (Dm.app 5 (Dn.bin .mod (Dn.bi1 .int (Dn.var 4)) (Dn.idx (Dn.var 2) (Dn.var 6)))) (Dm.asg (.name 4) (Dn.bin .fdiv (Dn.var 4) (Dn.idx (Dn.var 2) (Dn.var 6))))) (Dm.cons (Dm.asg (.name 7) (Dn.bin .pow (Dn.bin .add (Dn.bin .add (Dn.bin .mod (Dn.bi1 .int (Dn.var 3)) (Dn.cst (.int 2147483629))) (Dn.bin .mul (Dn.cst (.int 7919)) (Dn.var 1))) (Dn.cst (.int 1))) (Dn.cst (.int 3)))) (Dm.cons (Dm.asg (.name 7) (Dn.bin .mul (Dn.bin .add (Dn.bin .mod (Dn.bi1 .int (Dn.var 7)) (Dn.cst (.int 2147483647))) (Dn.bin .mul (Dn.cst (.int 104729)) (Dn.bin .add (Dn.var 6) (Dn.cst (.int 1))))) (Dn.bin .add (Dn.var 6) (Dn.cst (.int 3))))) (Dm.cons (Dm.asg (.name 7) (Dn.bin .mod (Dn.bi1 .int (Dn.var 7)) (Dn.cst (.int 2147483629)))) (Dm.cons (Dm.asg (.name 7) (Dn.bin .mul (Dn.bin .mod (Dn.bi1 .int (Dn.bin .pow (Dn.var 7) (Dn.cst (.int 5)))) (Dn.cst (.int 2147483647))) (Dn.cst (.int 48271)))) (Dm.cons (Dm.asg (.name 7) (Dn.bin .mod (Dn.bi1 .int (Dn.var 7)) (Dn.cst (.int 2147483629)))) (Dm.app 5 (Dn.bin .mod (Dn.bi1 .int (Dn.bin .fdiv (Dn.var 7) (Dn.cst (.int 16)))) (Dn.idx (Dn.var 2) (Dn.var 6))))))))))) (Dm.cons (Dm.frz 5) (Dm.ret (Dn.var 5))))))
def d__law_numbers : Fn := fnOf 3 8 b__law_numbers
def b__law_pool : Sm := Dm.ret (Dn.loc (Dn.lst [(false, Dn.call d__law_numbers [(false, Dn.var 0), (false, Dn.var 1), (false, Dn.bin .mul (Dn.lst [(false, Dn.cst (.int 420))]) (Dn.var 2))]), (false, Dn.cst (.int 0))]))
def d__law_pool : Fn := fnOf 3 3 b__law_pool
def b__law_draw : Sm := Dm.cons (Dm.asg (.name 2) (Dn.idx (Dn.var 0) (Dn.cst (.int 1)))) (Dm.cons (Dm.setI (Dn.var 0) (Dn.cst (.int 1)) (Dn.bin .add (Dn.var 2) (Dn.cst (.int 1)))) (Dm.ret (Dn.ite (Dn.cmp .lt (Dn.var 2) (Dn.bi1 .len (Dn.idx (Dn.var 0) (Dn.cst (.int 0))))) (Dn.bin .mod (Dn.bi1 .int (Dn.idx (Dn.idx (Dn.var 0) (Dn.cst (.int 0))) (Dn.var 2))) (Dn.var 1)) (Dn.cst (.int 0)))))
def d__law_draw : Fn := fnOf 2 3 b__law_draw
def b__law_opened : Sm := Dm.cons (Dm.asg (.name 3) (Dn.ite (Dn.cmp .ne (Dn.var 0) (Dn.lst [])) (Dn.idx (Dn.var 0) (Dn.var 1)) (Dn.cst (.int 7)))) (Dm.ret (Dn.call d__law_pool [(false, Dn.var 3), (false, Dn.var 1), (false, Dn.var 2)]))
def d__law_opened : Fn := fnOf 3 4 b__law_opened
def b__law_endless : Sm := Dm.cons (Dm.asg (.name 1) (Dn.ite (Dn.var 0) (Dn.dct false [(false, Dn.cst (.str "t"))] [(false, Dn.tup [(false, Dn.cst (.int 1)), (false, Dn.cst (.str "h"))])]) (Dn.dct false [] []))) (Dm.ret (Dn.frz (Dn.make "Program" d_Program___init__ [(false, Dn.cst (.int 1)), (false, Dn.cst (.int 2)), (false, Dn.dct false [(false, Dn.cst (.str "x"))] [(false, Dn.cst (.int 0))]), (false, Dn.dct false [(false, Dn.cst (.str "main")), (false, Dn.cst (.str "h"))] [(false, Dn.lst [(false, Dn.tup [(false, Dn.cst (.str "go")), (false, Dn.cst (.int 0))])]), (false, Dn.lst [])]), (false, Dn.var 1)] [.str "main", .non])))
def d__law_endless : Fn := fnOf 1 2 b__law_endless
def b__law_tower : Sm := Dm.cons (Dm.asg (.name 1) (Dn.dct false [(false, Dn.cst (.str "main")), (false, Dn.cst (.str "h"))] [(false, Dn.lst [(false, Dn.tup [(false, Dn.cst (.str "any")), (false, Dn.cst (.str "a"))]), (false, Dn.tup [(false, Dn.cst (.str "any")), (false, Dn.cst (.str "b"))]), (false, Dn.tup [(false, Dn.cst (.str "any")), (false, Dn.cst (.str "c"))]), (false, Dn.tup [(false, Dn.cst (.str "any")), (false, Dn.cst (.str "d"))])]), (false, Dn.lst [(false, Dn.tup [(false, Dn.cst (.str "look")), (false, Dn.cst (.str "a"))])])])) (Dm.cons (Dm.asg (.name 2) (Dn.bi1 .dict (Dn.lc [3] (.name 3) (Di.range1 (Dn.var 0)) [] (Dn.tup [(false, Dn.idx (Dn.cst (.str "pqrs")) (Dn.var 3)), (false, Dn.tup [(false, Dn.bin .add (Dn.var 3) (Dn.cst (.int 1))), (false, Dn.cst (.str "h"))])])))) (Dm.ret (Dn.frz (Dn.make "Program" d_Program___init__ [(false, Dn.cst (.int 4)), (false, Dn.cst (.int 4)), (false, Dn.dct false [(false, Dn.cst (.str "a")), (false, Dn.cst (.str "b")), (false, Dn.cst (.str "c")), (false, Dn.cst (.str "d"))] [(false, Dn.cst (.int 0)), (false, Dn.cst (.int 0)), (false, Dn.cst (.int 0)), (false, Dn.cst (.int 0))]), (false, Dn.var 1), (false, Dn.var 2)] [.str "main", .non]))))
def d__law_tower : Fn := fnOf 1 4 b__law_tower
def b__law_sum : Sm := Dm.cons (Dm.asg (.names [1, 2]) (Dn.tup [(false, Dn.cst (.int 1)), (false, Dn.cst (.int 1))])) (Dm.cons (Dm.for_ (.name 3) (Di.range1 (Dn.var 0)) (Dm.asgs [1, 2] [(false, Dn.bin .add (Dn.var 1) (Dn.var 2)), (false, Dn.var 1)])) (Dm.ret (Dn.var 1)))
def d__law_sum : Fn := fnOf 1 4 b__law_sum
def b__law_told : Sm := Dm.try_ "TooMany" (Dm.ret (Dn.lst [(false, Dn.cst (.str "amount")), (false, Dn.prop "Scripts" d_Scripts_amount (Dn.frz (Dn.make "Scripts" d_Scripts___init__ [(false, Dn.var 0), (false, Dn.var 1)] [])))])) (Dm.told "many")
def d__law_told : Fn := fnOf 2 3 b__law_told
def b__law_great : Sm := Dm.cons (Dm.try_ "TooMany" (Dm.drop (Dn.call d_many_states [(false, Dn.var 0)])) (Dm.above 20000)) (Dm.ret (Dn.cst (.bl false)))
def d__law_great : Fn := fnOf 1 2 b__law_great
def b_law : Sm := Dm.cons (Dm.for_ (.name 1) (Di.range1 (Dn.bi2 .max (Dn.cst (.int 1)) (Dn.bi2 .min (Dn.bi1 .len (Dn.var 0)) (Dn.cst (.int 2))))) (Dm.cons (Dm.asg (.name 2) (Dn.call d__law_opened [(false, Dn.var 0), (false, Dn.var 1), (false, Dn.cst (.int 8))])) (Dm.cons (Dm.asg (.name 3) (Dn.idx (Dn.lst [(false, Dn.cst (.int 1000)), (false, Dn.cst (.int 7)), (false, Dn.cst (.int 100)), (false, Dn.cst (.int 999)), (false, Dn.cst (.int 0)), (false, Dn.cst (.int 1))]) (Dn.call d__law_draw [(false, Dn.var 2), (false, Dn.cst (.int 6))]))) (Dm.cons (Dm.asgs [4, 5] [(false, Dn.frz (Dn.make "Scripts" d_Scripts___init__ [(false, Dn.call d__law_endless [(false, Dn.cst (.bl true))]), (false, Dn.var 3)] [])), (false, Dn.frz (Dn.make "Scripts" d_Scripts___init__ [(false, Dn.call d__law_endless [(false, Dn.cst (.bl false))]), (false, Dn.var 3)] []))]) (Dm.cons (Dm.if_ (Dn.or_ [(false, Dn.cmp .ne (Dn.prop "Scripts" d_Scripts_amount (Dn.var 4)) (Dn.call d__law_sum [(false, Dn.var 3)])), (false, Dn.cmp .ne (Dn.prop "Scripts" d_Scripts_length (Dn.var 4)) (Dn.var 3)), (false, Dn.cmp .ne (Dn.prop "Scripts" d_Scripts_amount (Dn.var 5)) (Dn.cst (.int 1)))]) (Dm.ret (Dn.cst (.bl false))) (Dm.nil)) (Dm.cons (Dm.if_ (Dn.or_ [(false, Dn.cmp .ne (Dn.item "Scripts" d_Scripts___getitem__ (Dn.var 5) (Dn.cst (.int 0))) (Dn.bin .mul (Dn.lst [(false, Dn.tup [(false, Dn.cst (.str "row")), (false, Dn.cst (.int 0))])]) (Dn.var 3))), (false, Dn.cmp .ne (Dn.meth "Scripts" "number_of" d_Scripts_number_of (Dn.var 5) [(false, Dn.bin .mul (Dn.lst [(false, Dn.tup [(false, Dn.cst (.str "row")), (false, Dn.cst (.int 0))])]) (Dn.var 3))]) (Dn.cst (.int 0)))]) (Dm.ret (Dn.cst (.bl false))) (Dm.nil)) (Dm.cons (Dm.for_ (.name 6) (Di.val (Dn.lst [(false, Dn.cst (.int 0)), (false, Dn.bin .sub (Dn.prop "Scripts" d_Scripts_amount (Dn.var 4)) (Dn.cst (.int 1))), (false, Dn.bin .mod (Dn.bin .mul (Dn.bin .add (Dn.call d__law_draw [(false, Dn.var 2), (false, Dn.cst (.int 420))]) (Dn.cst (.int 1))) (Dn.bin .pow (Dn.cst (.int 10)) (Dn.cst (.int 9)))) (Dn.prop "Scripts" d_Scripts_amount (Dn.var 4)))])) (Dm.cons (Dm.asg (.name 7) (Dn.item "Scripts" d_Scripts___getitem__ (Dn.var 4) (Dn.var 6))) (Dm.if_ (Dn.or_ [(false, Dn.cmp .ne (Dn.bi1 .len (Dn.var 7)) (Dn.var 3)), (false, Dn.cmp .ne (Dn.meth "Scripts" "number_of" d_Scripts_number_of (Dn.var 4) [(false, Dn.var 7)]) (Dn.var 6)), (false, Dn.among true "Scripts" d_Scripts___contains__ (Dn.var 7) (Dn.var 4))]) (Dm.ret (Dn.cst (.bl false))) (Dm.nil)))) (Dm.cons (Dm.asg (.name 8) (Dn.call d__law_tower [(false, Dn.cst (.int 0))])) (Dm.cons (Dm.if_ (Dn.or_ [(false, Dn.cmp .ne (Dn.call d_many_states [(false, Dn.var 8)]) (Dn.cst (.int 341))), (false, Dn.cmp .ne (Dn.call d_many_states [(false, Dn.call d__law_tower [(false, Dn.cst (.int 1))])]) (Dn.bin .mul (Dn.cst (.int 3)) (Dn.cst (.int 341))))]) (Dm.ret (Dn.cst (.bl false))) (Dm.nil)) (Dm.cons (Dm.if_ (Dn.or_ [(false, Dn.cmp .ne (Dn.call d__law_told [(false, Dn.var 8), (false, Dn.cst (.int 587))]) (Dn.lst [(false, Dn.cst (.str "many")), (false, Dn.bin .mul (Dn.cst (.int 587)) (Dn.cst (.int 341)))])), (false, Dn.cmp .ne (Dn.idx (Dn.call d__law_told [(false, Dn.var 8), (false, Dn.cst (.int 586))]) (Dn.cst (.int 0))) (Dn.cst (.str "amount")))]) (Dm.ret (Dn.cst (.bl false))) (Dm.nil)) (Dm.cons (Dm.if_ (Dn.or_ [(false, Dn.cmp .ne (Dn.call d__law_told [(false, Dn.var 8), (false, Dn.cst (.int 4))]) (Dn.lst [(false, Dn.cst (.str "amount")), (false, Dn.cst (.int 256))])), (false, Dn.cmp .ne (Dn.call d__law_told [(false, Dn.var 8), (false, Dn.cst (.int 5))]) (Dn.lst [(false, Dn.cst (.str "amount")), (false, Dn.cst (.int 0))]))]) (Dm.ret (Dn.cst (.bl false))) (Dm.nil)) (Dm.if_ (Dn.and_ [(false, Dn.cmp .eq (Dn.var 1) (Dn.cst (.int 0))), (false, Dn.not_ (Dn.call d__law_great [(false, Dn.call d__law_tower [(false, Dn.cst (.int 4))])]))]) (Dm.ret (Dn.cst (.bl false))) (Dm.nil))))))))))))) (Dm.ret (Dn.cst (.bl true)))
def d_law : Fn := fnOf 1 9 b_law
end Kt

/-! k18: each def's body is what its combinators say, printed by gen.py (own work). -/
namespace Kt
open PySem PySem.Spec PyProof.Rows L2 Mp
def topS (i : Nat) : Stmt := PySem.Challenge.pw_maskedlevels_k18_whole_counts_of_great_p.main.body.getD i (.Pass ⟨0, 0, 0, 0⟩)
def clsBody : Stmt → List Stmt
  | .ClassDef _ _ _ b .. => b
  | _ => []
def memS (i j : Nat) : Stmt := (clsBody (topS i)).getD j (.Pass ⟨0, 0, 0, 0⟩)
structure Tx (P : PySem.Program) (w : World) (K : PySem.W.Frag) (mg : Str → Option Value) (base : Heap) (ca : CA) (fa pa : Nat → Addr) : Prop where
  f_is_integer : ∃ fd ds, FunD K "is_integer" "is_integer" (defArgs (topS 21)) (defBody (topS 21)) (defScope (topS 21)) [] [] (fa 0) fd ∧ Binds K fd ["value"] ds ∧ Vals [] ds
  f_is_within : ∃ fd ds, FunD K "is_within" "is_within" (defArgs (topS 22)) (defBody (topS 22)) (defScope (topS 22)) [] [] (fa 1) fd ∧ Binds K fd ["value", "least", "most"] ds ∧ Vals [] ds
  f_is_word : ∃ fd ds, FunD K "is_word" "is_word" (defArgs (topS 23)) (defBody (topS 23)) (defScope (topS 23)) [] [] (fa 2) fd ∧ Binds K fd ["value"] ds ∧ Vals [] ds
  f_are_words : ∃ fd ds, FunD K "are_words" "are_words" (defArgs (topS 24)) (defBody (topS 24)) (defScope (topS 24)) [] [] (fa 3) fd ∧ Binds K fd ["value", "least", "most"] ds ∧ Vals [] ds
  f_Program_levels : ∃ fd ds, FunD K "levels" "Program.levels" (defArgs (memS 29 6)) (defBody (memS 29 6)) (defScope (memS 29 6)) [] [] (fa 4) fd ∧ Binds K fd ["self"] ds ∧ Vals [] ds
  f_Program_size : ∃ fd ds, FunD K "size" "Program.size" (defArgs (memS 29 7)) (defBody (memS 29 7)) (defScope (memS 29 7)) [] [] (fa 5) fd ∧ Binds K fd ["self"] ds ∧ Vals [] ds
  f_Program_main : ∃ fd ds, FunD K "main" "Program.main" (defArgs (memS 29 8)) (defBody (memS 29 8)) (defScope (memS 29 8)) [] [] (fa 6) fd ∧ Binds K fd ["self"] ds ∧ Vals [] ds
  f_is_sign_part : ∃ fd ds, FunD K "is_sign_part" "is_sign_part" (defArgs (topS 25)) (defBody (topS 25)) (defScope (topS 25)) [] [] (fa 7) fd ∧ Binds K fd ["program", "sign", "value", "many"] ds ∧ Vals [] ds
  f_is_row : ∃ fd ds, FunD K "is_row" "is_row" (defArgs (topS 26)) (defBody (topS 26)) (defScope (topS 26)) [] [] (fa 8) fd ∧ Binds K fd ["program", "value", "many"] ds ∧ Vals [] ds
  f_sections_of : ∃ fd ds, FunD K "sections_of" "sections_of" (defArgs (topS 27)) (defBody (topS 27)) (defScope (topS 27)) [] [] (fa 9) fd ∧ Binds K fd ["lists"] ds ∧ Vals [] ds ∧ LamF base mg ca "sections_of" fd
  f_has_ring : ∃ fd ds, FunD K "has_ring" "has_ring" (defArgs (topS 28)) (defBody (topS 28)) (defScope (topS 28)) [] [] (fa 10) fd ∧ Binds K fd ["lists"] ds ∧ Vals [] ds
  f_Program_spots : ∃ fd ds, FunD K "spots" "Program.spots" (defArgs (memS 29 1)) (defBody (memS 29 1)) (defScope (memS 29 1)) [] [] (fa 11) fd ∧ Binds K fd ["self"] ds ∧ Vals [] ds
  f_Program_keep_rows : ∃ fd ds, FunD K "keep_rows" "Program.keep_rows" (defArgs (memS 29 2)) (defBody (memS 29 2)) (defScope (memS 29 2)) [] [] (fa 12) fd ∧ Binds K fd ["self", "procedures"] ds ∧ Vals [] ds ∧ LamF base mg ca "Program.keep_rows" fd
  f_Program_is_served : ∃ fd ds, FunD K "is_served" "Program.is_served" (defArgs (memS 29 3)) (defBody (memS 29 3)) (defScope (memS 29 3)) [] [] (fa 13) fd ∧ Binds K fd ["self", "value"] ds ∧ Vals [] ds
  f_Program_are_guards : ∃ fd ds, FunD K "are_guards" "Program.are_guards" (defArgs (memS 29 5)) (defBody (memS 29 5)) (defScope (memS 29 5)) [] [] (fa 14) fd ∧ Binds K fd ["self", "value"] ds ∧ Vals [] ds
  f_Program___init__ : ∃ fd ds, FunD K "__init__" "Program.__init__" (defArgs (memS 29 0)) (defBody (memS 29 0)) (defScope (memS 29 0)) [.str "main", .non] [] (fa 15) fd ∧ Binds K fd ["self", "levels", "size", "start", "procedures", "lines", "main", "guards"] ds ∧ Vals [.str "main", .non] ds ∧ LamF base mg ca "Program.__init__" fd
  f_Program_first_store : ∃ fd ds, FunD K "first_store" "Program.first_store" (defArgs (memS 29 14)) (defBody (memS 29 14)) (defScope (memS 29 14)) [] [] (fa 16) fd ∧ Binds K fd ["self"] ds ∧ Vals [] ds
  f_check_program : ∃ fd ds, FunD K "check_program" "check_program" (defArgs (topS 30)) (defBody (topS 30)) (defScope (topS 30)) [] [] (fa 17) fd ∧ Binds K fd ["program"] ds ∧ Vals [] ds
  f_serving : ∃ fd ds, FunD K "serving" "serving" (defArgs (topS 32)) (defBody (topS 32)) (defScope (topS 32)) [] [] (fa 18) fd ∧ Binds K fd ["program", "procedure", "point", "mask"] ds ∧ Vals [] ds
  f_callee_at : ∃ fd ds, FunD K "callee_at" "callee_at" (defArgs (topS 33)) (defBody (topS 33)) (defScope (topS 33)) [] [] (fa 19) fd ∧ Binds K fd ["program", "procedure", "point"] ds ∧ Vals [] ds
  f_at_cell : ∃ fd ds, FunD K "at_cell" "at_cell" (defArgs (topS 34)) (defBody (topS 34)) (defScope (topS 34)) [] [] (fa 20) fd ∧ Binds K fd ["program", "cell"] ds ∧ Vals [] ds
  f_put_in : ∃ fd ds, FunD K "put_in" "put_in" (defArgs (topS 36)) (defBody (topS 36)) (defScope (topS 36)) [] [] (fa 21) fd ∧ Binds K fd ["store", "place", "value"] ds ∧ Vals [] ds
  f_changed_store : ∃ fd ds, FunD K "changed_store" "changed_store" (defArgs (topS 37)) (defBody (topS 37)) (defScope (topS 37)) [] [] (fa 22) fd ∧ Binds K fd ["program", "row", "store"] ds ∧ Vals [] ds
  f_points_behind : ∃ fd ds, FunD K "points_behind" "points_behind" (defArgs (topS 39)) (defBody (topS 39)) (defScope (topS 39)) [] [] (fa 23) fd ∧ Binds K fd ["program", "row", "point", "store"] ds ∧ Vals [] ds
  f_row_ways : ∃ fd ds, FunD K "row_ways" "row_ways" (defArgs (topS 40)) (defBody (topS 40)) (defScope (topS 40)) [] [] (fa 24) fd ∧ Binds K fd ["program", "procedure", "point", "kept", "store", "mask", "floor"] ds ∧ Vals [] ds
  f_first_state : ∃ fd ds, FunD K "first_state" "first_state" (defArgs (topS 42)) (defBody (topS 42)) (defScope (topS 42)) [] [] (fa 25) fd ∧ Binds K fd ["program"] ds ∧ Vals [] ds
  f_place_in : ∃ fd ds, FunD K "place_in" "place_in" (defArgs (topS 43)) (defBody (topS 43)) (defScope (topS 43)) [] [] (fa 26) fd ∧ Binds K fd ["state"] ds ∧ Vals [] ds
  f_frames_in : ∃ fd ds, FunD K "frames_in" "frames_in" (defArgs (topS 44)) (defBody (topS 44)) (defScope (topS 44)) [] [] (fa 27) fd ∧ Binds K fd ["state"] ds ∧ Vals [] ds
  f_is_resting : ∃ fd ds, FunD K "is_resting" "is_resting" (defArgs (topS 45)) (defBody (topS 45)) (defScope (topS 45)) [] [] (fa 28) fd ∧ Binds K fd ["program", "state"] ds ∧ Vals [] ds
  f_begin_line : ∃ fd ds, FunD K "begin_line" "begin_line" (defArgs (topS 46)) (defBody (topS 46)) (defScope (topS 46)) [] [] (fa 29) fd ∧ Binds K fd ["program", "state", "line"] ds ∧ Vals [] ds
  f_come_back : ∃ fd ds, FunD K "come_back" "come_back" (defArgs (topS 47)) (defBody (topS 47)) (defScope (topS 47)) [] [] (fa 30) fd ∧ Binds K fd ["state"] ds ∧ Vals [] ds
  f_with_frames : ∃ fd ds, FunD K "with_frames" "with_frames" (defArgs (topS 48)) (defBody (topS 48)) (defScope (topS 48)) [] [] (fa 31) fd ∧ Binds K fd ["state", "store", "mask", "frames"] ds ∧ Vals [] ds
  f_rows_behind : ∃ fd ds, FunD K "rows_behind" "rows_behind" (defArgs (topS 49)) (defBody (topS 49)) (defScope (topS 49)) [] [] (fa 32) fd ∧ Binds K fd ["program", "state"] ds ∧ Vals [] ds
  f_all_moves : ∃ fd ds, FunD K "all_moves" "all_moves" (defArgs (topS 50)) (defBody (topS 50)) (defScope (topS 50)) [] [] (fa 33) fd ∧ Binds K fd ["program", "state"] ds ∧ Vals [] ds
  f_state_behind : ∃ fd ds, FunD K "state_behind" "state_behind" (defArgs (topS 51)) (defBody (topS 51)) (defScope (topS 51)) [] [] (fa 34) fd ∧ Binds K fd ["program", "state", "move"] ds ∧ Vals [] ds
  f_is_move : ∃ fd ds, FunD K "is_move" "is_move" (defArgs (topS 53)) (defBody (topS 53)) (defScope (topS 53)) [] [] (fa 35) fd ∧ Binds K fd ["value"] ds ∧ Vals [] ds
  f_after_move : ∃ fd ds, FunD K "after_move" "after_move" (defArgs (topS 54)) (defBody (topS 54)) (defScope (topS 54)) [] [] (fa 36) fd ∧ Binds K fd ["program", "state", "move"] ds ∧ Vals [] ds
  f_states_of : ∃ fd ds, FunD K "states_of" "states_of" (defArgs (topS 59)) (defBody (topS 59)) (defScope (topS 59)) [] [] (fa 37) fd ∧ Binds K fd ["program"] ds ∧ Vals [] ds
  f_many_states : ∃ fd ds, FunD K "many_states" "many_states" (defArgs (topS 60)) (defBody (topS 60)) (defScope (topS 60)) [] [] (fa 38) fd ∧ Binds K fd ["program"] ds ∧ Vals [] ds
  f_small_enough : ∃ fd ds, FunD K "small_enough" "small_enough" (defArgs (topS 61)) (defBody (topS 61)) (defScope (topS 61)) [] [] (fa 39) fd ∧ Binds K fd ["graph", "moves"] ds ∧ Vals [] ds
  f_Scripts_all_layers : ∃ fd ds, FunD K "all_layers" "Scripts.all_layers" (defArgs (memS 62 1)) (defBody (memS 62 1)) (defScope (memS 62 1)) [] [] (fa 40) fd ∧ Binds K fd ["self", "graph"] ds ∧ Vals [] ds
  f_Scripts___init__ : ∃ fd ds, FunD K "__init__" "Scripts.__init__" (defArgs (memS 62 0)) (defBody (memS 62 0)) (defScope (memS 62 0)) [] [] (fa 41) fd ∧ Binds K fd ["self", "program", "moves"] ds ∧ Vals [] ds
  f_Scripts_length : ∃ fd ds, FunD K "length" "Scripts.length" (defArgs (memS 62 2)) (defBody (memS 62 2)) (defScope (memS 62 2)) [] [] (fa 42) fd ∧ Binds K fd ["self"] ds ∧ Vals [] ds
  f_Scripts_amount : ∃ fd ds, FunD K "amount" "Scripts.amount" (defArgs (memS 62 3)) (defBody (memS 62 3)) (defScope (memS 62 3)) [] [] (fa 43) fd ∧ Binds K fd ["self"] ds ∧ Vals [] ds
  f_Scripts_end_of : ∃ fd ds, FunD K "end_of" "Scripts.end_of" (defArgs (memS 62 5)) (defBody (memS 62 5)) (defScope (memS 62 5)) [] [] (fa 44) fd ∧ Binds K fd ["self", "script"] ds ∧ Vals [] ds
  f_Scripts___contains__ : ∃ fd ds, FunD K "__contains__" "Scripts.__contains__" (defArgs (memS 62 4)) (defBody (memS 62 4)) (defScope (memS 62 4)) [] [] (fa 45) fd ∧ Binds K fd ["self", "script"] ds ∧ Vals [] ds
  f_Scripts___getitem__ : ∃ fd ds, FunD K "__getitem__" "Scripts.__getitem__" (defArgs (memS 62 6)) (defBody (memS 62 6)) (defScope (memS 62 6)) [] [] (fa 46) fd ∧ Binds K fd ["self", "number"] ds ∧ Vals [] ds
  f_Scripts_number_of : ∃ fd ds, FunD K "number_of" "Scripts.number_of" (defArgs (memS 62 8)) (defBody (memS 62 8)) (defScope (memS 62 8)) [] [] (fa 47) fd ∧ Binds K fd ["self", "script"] ds ∧ Vals [] ds
  f__law_numbers : ∃ fd ds, FunD K "_law_numbers" "_law_numbers" (defArgs (topS 64)) (defBody (topS 64)) (defScope (topS 64)) [] [] (fa 48) fd ∧ Binds K fd ["_law_cell", "_law_salt", "_law_sizes"] ds ∧ Vals [] ds
  f__law_pool : ∃ fd ds, FunD K "_law_pool" "_law_pool" (defArgs (topS 65)) (defBody (topS 65)) (defScope (topS 65)) [] [] (fa 49) fd ∧ Binds K fd ["_law_cell", "_law_salt", "_law_many"] ds ∧ Vals [] ds
  f__law_draw : ∃ fd ds, FunD K "_law_draw" "_law_draw" (defArgs (topS 66)) (defBody (topS 66)) (defScope (topS 66)) [] [] (fa 50) fd ∧ Binds K fd ["_law_pool_here", "_law_many"] ds ∧ Vals [] ds
  f__law_opened : ∃ fd ds, FunD K "_law_opened" "_law_opened" (defArgs (topS 67)) (defBody (topS 67)) (defScope (topS 67)) [] [] (fa 51) fd ∧ Binds K fd ["_law_script", "_law_k", "_law_many"] ds ∧ Vals [] ds
  f__law_endless : ∃ fd ds, FunD K "_law_endless" "_law_endless" (defArgs (topS 68)) (defBody (topS 68)) (defScope (topS 68)) [] [] (fa 52) fd ∧ Binds K fd ["_law_has_line"] ds ∧ Vals [] ds
  f__law_tower : ∃ fd ds, FunD K "_law_tower" "_law_tower" (defArgs (topS 69)) (defBody (topS 69)) (defScope (topS 69)) [] [] (fa 53) fd ∧ Binds K fd ["_law_levels"] ds ∧ Vals [] ds
  f__law_sum : ∃ fd ds, FunD K "_law_sum" "_law_sum" (defArgs (topS 70)) (defBody (topS 70)) (defScope (topS 70)) [] [] (fa 54) fd ∧ Binds K fd ["_law_many"] ds ∧ Vals [] ds
  f__law_told : ∃ fd ds, FunD K "_law_told" "_law_told" (defArgs (topS 71)) (defBody (topS 71)) (defScope (topS 71)) [] [] (fa 55) fd ∧ Binds K fd ["_law_program", "_law_moves"] ds ∧ Vals [] ds
  f__law_great : ∃ fd ds, FunD K "_law_great" "_law_great" (defArgs (topS 72)) (defBody (topS 72)) (defScope (topS 72)) [] [] (fa 56) fd ∧ Binds K fd ["_law_program"] ds ∧ Vals [] ds
  f_law : ∃ fd ds, FunD K "law" "law" (defArgs (topS 73)) (defBody (topS 73)) (defScope (topS 73)) [] [] (fa 57) fd ∧ Binds K fd ["_law_script"] ds ∧ Vals [] ds
  g_is_integer : mg "is_integer" = some (.ref (fa 0))
  g_is_word : mg "is_word" = some (.ref (fa 2))
  g_is_within : mg "is_within" = some (.ref (fa 1))
  g_is_sign_part : mg "is_sign_part" = some (.ref (fa 7))
  g_is_row : mg "is_row" = some (.ref (fa 8))
  g_are_words : mg "are_words" = some (.ref (fa 3))
  g_has_ring : mg "has_ring" = some (.ref (fa 10))
  g_sections_of : mg "sections_of" = some (.ref (fa 9))
  g_Program : mg "Program" = some (.ref (ca "Program"))
  g_put_in : mg "put_in" = some (.ref (fa 21))
  g_at_cell : mg "at_cell" = some (.ref (fa 20))
  g_points_behind : mg "points_behind" = some (.ref (fa 23))
  g_changed_store : mg "changed_store" = some (.ref (fa 22))
  g_frames_in : mg "frames_in" = some (.ref (fa 27))
  g_row_ways : mg "row_ways" = some (.ref (fa 24))
  g_with_frames : mg "with_frames" = some (.ref (fa 31))
  g_callee_at : mg "callee_at" = some (.ref (fa 19))
  g_come_back : mg "come_back" = some (.ref (fa 30))
  g_place_in : mg "place_in" = some (.ref (fa 26))
  g_rows_behind : mg "rows_behind" = some (.ref (fa 32))
  g_is_resting : mg "is_resting" = some (.ref (fa 28))
  g_serving : mg "serving" = some (.ref (fa 18))
  g_begin_line : mg "begin_line" = some (.ref (fa 29))
  g_all_moves : mg "all_moves" = some (.ref (fa 33))
  g_is_move : mg "is_move" = some (.ref (fa 35))
  g_state_behind : mg "state_behind" = some (.ref (fa 34))
  g_first_state : mg "first_state" = some (.ref (fa 25))
  g_check_program : mg "check_program" = some (.ref (fa 17))
  g_states_of : mg "states_of" = some (.ref (fa 37))
  g_small_enough : mg "small_enough" = some (.ref (fa 39))
  g_after_move : mg "after_move" = some (.ref (fa 36))
  g__law_numbers : mg "_law_numbers" = some (.ref (fa 48))
  g__law_pool : mg "_law_pool" = some (.ref (fa 49))
  g_Scripts : mg "Scripts" = some (.ref (ca "Scripts"))
  g_many_states : mg "many_states" = some (.ref (fa 38))
  g__law_tower : mg "_law_tower" = some (.ref (fa 53))
  g__law_great : mg "_law_great" = some (.ref (fa 56))
  g__law_told : mg "_law_told" = some (.ref (fa 55))
  g__law_draw : mg "_law_draw" = some (.ref (fa 50))
  g__law_sum : mg "_law_sum" = some (.ref (fa 54))
  g__law_endless : mg "_law_endless" = some (.ref (fa 52))
  g__law_opened : mg "_law_opened" = some (.ref (fa 51))
  z_isinstance : mg "isinstance" = none
  z_int : mg "int" = none
  z_bool : mg "bool" = none
  z_all : mg "all" = none
  z_str : mg "str" = none
  z_len : mg "len" = none
  z_dict : mg "dict" = none
  z_zip : mg "zip" = none
  z_tuple : mg "tuple" = none
  z_sorted : mg "sorted" = none
  z_any : mg "any" = none
  z_range : mg "range" = none
  z_list : mg "list" = none
  z_sum : mg "sum" = none
  z_enumerate : mg "enumerate" = none
  z_max : mg "max" = none
  z_min : mg "min" = none
  v_MOST_LETTERS : ∃ t, mg "MOST_LETTERS" = some (.int 8 t)
  v_MOST_ROWS : ∃ t, mg "MOST_ROWS" = some (.int 24 t)
  v_MOST_LINES : ∃ t, mg "MOST_LINES" = some (.int 6 t)
  v_MOST_SECTIONS : ∃ t, mg "MOST_SECTIONS" = some (.int 3 t)
  v_MOST_PROCEDURES : ∃ t, mg "MOST_PROCEDURES" = some (.int 12 t)
  v_MOST_STORES : ∃ t, mg "MOST_STORES" = some (.int 256 t)
  v_MOST_CELLS : ∃ t, mg "MOST_CELLS" = some (.int 6 t)
  v_MOST_VALUES : ∃ t, mg "MOST_VALUES" = some (.int 6 t)
  v_MOST_LEVELS : ∃ t, mg "MOST_LEVELS" = some (.int 4 t)
  v_MOST_STATES : ∃ t, mg "MOST_STATES" = some (.int 20000 t)
  v_MOST_COUNTS : ∃ t, mg "MOST_COUNTS" = some (.int 200000 t)
  v_MOST_MOVES : ∃ t, mg "MOST_MOVES" = some (.int 1000 t)
  v_LETTERS : ∃ t, mg "LETTERS" = some (.str "abcdefghijklmnopqrstuvwxyz" t)
  c_Program : Cls K (ca "Program")
  mk_Program : Mk K (ca "Program") (fa 15)
  c_Scripts : Cls K (ca "Scripts")
  mk_Scripts : Mk K (ca "Scripts") (fa 41)
  i_Program : C8.InsC K (ca "Program")
  n_Program_own_levels : NoAttr K (ca "Program") (Str.ofString "own_levels")
  n_Program_own_size : NoAttr K (ca "Program") (Str.ofString "own_size")
  n_Program_own_main : NoAttr K (ca "Program") (Str.ofString "own_main")
  n_Program_lists : NoAttr K (ca "Program") (Str.ofString "lists")
  n_Program_firsts : NoAttr K (ca "Program") (Str.ofString "firsts")
  n_Program_own_guards : NoAttr K (ca "Program") (Str.ofString "own_guards")
  n_Program_own_lines : NoAttr K (ca "Program") (Str.ofString "own_lines")
  n_Program_own_sections : NoAttr K (ca "Program") (Str.ofString "own_sections")
  n_Scripts_own_moves : NoAttr K (ca "Scripts") (Str.ofString "own_moves")
  n_Scripts_layers : NoAttr K (ca "Scripts") (Str.ofString "layers")
  n_Scripts_own_first : NoAttr K (ca "Scripts") (Str.ofString "own_first")
  n_Scripts_own_program : NoAttr K (ca "Scripts") (Str.ofString "own_program")
  me_Program_spots : Meth K (ca "Program") (Str.ofString "spots") (fa 11)
  me_Program_are_guards : Meth K (ca "Program") (Str.ofString "are_guards") (fa 14)
  me_Program_is_served : Meth K (ca "Program") (Str.ofString "is_served") (fa 13)
  me_Program_keep_rows : Meth K (ca "Program") (Str.ofString "keep_rows") (fa 12)
  me_Program_first_store : Meth K (ca "Program") (Str.ofString "first_store") (fa 16)
  me_Scripts_all_layers : Meth K (ca "Scripts") (Str.ofString "all_layers") (fa 40)
  me_Scripts_end_of : Meth K (ca "Scripts") (Str.ofString "end_of") (fa 44)
  me_Scripts_number_of : Meth K (ca "Scripts") (Str.ofString "number_of") (fa 47)
  p_Program_levels : PropOf K (ca "Program") (Str.ofString "levels") (pa 0) (fa 4)
  p_Program_size : PropOf K (ca "Program") (Str.ofString "size") (pa 1) (fa 5)
  p_Program_main : PropOf K (ca "Program") (Str.ofString "main") (pa 2) (fa 6)
  p_Scripts_amount : PropOf K (ca "Scripts") (Str.ofString "amount") (pa 3) (fa 43)
  p_Scripts_length : PropOf K (ca "Scripts") (Str.ofString "length") (pa 4) (fa 42)
  du_Scripts___contains__ : Dun K (ca "Scripts") "__contains__" (fa 45)
  du_Scripts___getitem__ : Dun K (ca "Scripts") "__getitem__" (fa 46)
  err : PySem.ErrX.ErrTxt K mg (ca "TooMany") (fa 58)
  forms : ∀ {X : Cx}, X.K = K → X.mg = mg → X.w = w → GDict X "FORMS" formsL
variable {P : PySem.Program} {w : World} {K : PySem.W.Frag} {mg : Str → Option Value} {base : Heap} {ca : CA} {fa pa : Nat → Addr}
theorem sc_is_integer : FnScope ["value"] ["value"] (defScope (topS 21)) := ⟨rfl, rfl, rfl, by decide +kernel, rfl, by decide +kernel, by decide +kernel⟩
theorem m_is_integer (T : Tx P w K mg base ca fa pa) : FnM P w K mg base ca 1 (fa 0) 1 [] d_is_integer := by
  obtain ⟨fd, ds, F, B, Vd⟩ := T.f_is_integer
  exact FnM.of F sc_is_integer rfl rfl B Vd (fun _ => rfl) fun cdv A outer s H E hr y => (Sts.one (St1.ret (Sd.and_ (.cons (Sd.isi (t := .int) (Sd.var (i := 0) rfl (.inl (by kernel_rfl)) rfl rfl) rfl T.z_isinstance bt_isinstance rfl T.z_int bt_int) rfl (.cons (Sd.not_ (Sd.isi (t := .bool) (Sd.var (i := 0) rfl (.inl (by kernel_rfl)) rfl rfl) rfl T.z_isinstance bt_isinstance rfl T.z_bool bt_bool)) rfl .nil)) rfl (List.cons_ne_nil _ _))))
theorem sc_is_within : FnScope ["value", "least", "most"] ["value", "least", "most"] (defScope (topS 22)) := ⟨rfl, rfl, rfl, by decide +kernel, rfl, by decide +kernel, by decide +kernel⟩
theorem m_is_within (T : Tx P w K mg base ca fa pa) : FnM P w K mg base ca 2 (fa 1) 3 [] d_is_within := by
  obtain ⟨fd, ds, F, B, Vd⟩ := T.f_is_within
  exact FnM.of F sc_is_within rfl rfl B Vd (fun _ => rfl) fun cdv A outer s H E hr y => (Sts.one (St1.ret (Sd.and_ (.cons (Sd.call (x := "is_integer") ((m_is_integer T).mono (by decide : 1 ≤ 1)) hr y.tk rfl T.g_is_integer (.cons (Sd.var (i := 0) rfl (.inl (by kernel_rfl)) rfl rfl) rfl .nil) rfl rfl) rfl (.cons (Sd.chain (o := .le) (p := .le) y.hu rfl rfl (Sd.var (i := 1) rfl (.inl (by kernel_rfl)) rfl rfl) (Sd.var (i := 0) rfl (.inl (by kernel_rfl)) rfl rfl) (Sd.var (i := 2) rfl (.inl (by kernel_rfl)) rfl rfl) rfl) rfl .nil)) rfl (List.cons_ne_nil _ _))))
theorem sc_is_word : FnScope ["value", "sign"] ["value"] (defScope (topS 23)) := ⟨rfl, rfl, rfl, by decide +kernel, rfl, by decide +kernel, by decide +kernel⟩
theorem m_is_word (T : Tx P w K mg base ca fa pa) : FnM P w K mg base ca 1 (fa 2) 1 [] d_is_word := by
  obtain ⟨fd, ds, F, B, Vd⟩ := T.f_is_word
  exact FnM.of F sc_is_word rfl rfl B Vd (fun _ => rfl) fun cdv A outer s H E hr y => (Sts.cons y (St1.if_ (Sd.or_ (.cons (Sd.not_ (Sd.isi (t := .str) (Sd.var (i := 0) rfl (.inl (by kernel_rfl)) rfl rfl) rfl T.z_isinstance bt_isinstance rfl T.z_str bt_str)) rfl (.cons (Sd.not_ (Sd.chain (o := .le) (p := .le) y.hu rfl rfl Sd.int (Sd.biB (b := .len) cb_len (Sd.var (i := 0) rfl (.inl (by kernel_rfl)) rfl rfl) rfl T.z_len bt_len) (Sd.globI rfl T.v_MOST_LETTERS rfl) rfl)) rfl .nil)) rfl (List.cons_ne_nil _ _)) (Sts.one (St1.ret Sd.bl)) Sts.nil) (Sts.one (St1.ret (Sd.biB (b := .all) (cb_all y.calm) (Sd.lc (own := [("sign", 1)]) y (Si.val y.u16 (Sd.var (i := 0) rfl (.inl (by kernel_rfl)) rfl rfl)) (Mp.BlkOk.of (by kernel_rfl)) (by decide) (fun s H C cl fp => (PgN (y.blk).nd rfl (.inl (by kernel_rfl)) (.inr (by kernel_rfl)))) (fun s H C cl fp => .nil) (fun s H C cl fp => (Sd.cmp (o := .in_) (y.blk).hu (Sd.var (i := 1) rfl (.inl (by kernel_rfl)) rfl rfl) (Sd.globS rfl T.v_LETTERS rfl) rfl))) rfl T.z_all bt_all))))
theorem sc_are_words : FnScope ["value", "least", "most", "word"] ["value", "least", "most"] (defScope (topS 24)) := ⟨rfl, rfl, rfl, by decide +kernel, rfl, by decide +kernel, by decide +kernel⟩
theorem m_are_words (T : Tx P w K mg base ca fa pa) : FnM P w K mg base ca 2 (fa 3) 3 [] d_are_words := by
  obtain ⟨fd, ds, F, B, Vd⟩ := T.f_are_words
  exact FnM.of F sc_are_words rfl rfl B Vd (fun _ => rfl) fun cdv A outer s H E hr y => (Sts.cons y (St1.if_ (Sd.or_ (.cons (Sd.not_ (Sd.isi (t := .dict) (Sd.var (i := 0) rfl (.inl (by kernel_rfl)) rfl rfl) rfl T.z_isinstance bt_isinstance rfl T.z_dict bt_dict)) rfl (.cons (Sd.not_ (Sd.chain (o := .le) (p := .le) y.hu rfl rfl (Sd.var (i := 1) rfl (.inl (by kernel_rfl)) rfl rfl) (Sd.biB (b := .len) cb_len (Sd.var (i := 0) rfl (.inl (by kernel_rfl)) rfl rfl) rfl T.z_len bt_len) (Sd.var (i := 2) rfl (.inl (by kernel_rfl)) rfl rfl) rfl)) rfl .nil)) rfl (List.cons_ne_nil _ _)) (Sts.one (St1.ret Sd.bl)) Sts.nil) (Sts.one (St1.ret (Sd.biB (b := .all) (cb_all y.calm) (Sd.lc (own := [("word", 3)]) y (Si.val y.u16 (Sd.var (i := 0) rfl (.inl (by kernel_rfl)) rfl rfl)) (Mp.BlkOk.of (by kernel_rfl)) (by decide) (fun s H C cl fp => (PgN (y.blk).nd rfl (.inl (by kernel_rfl)) (.inr (by kernel_rfl)))) (fun s H C cl fp => .nil) (fun s H C cl fp => (Sd.call (x := "is_word") ((m_is_word T).mono (by decide : 1 ≤ 1)) hr (y.blk).tk rfl T.g_is_word (.cons (Sd.var (i := 3) rfl (.inl (by kernel_rfl)) rfl rfl) rfl .nil) rfl rfl))) rfl T.z_all bt_all))))
theorem sc_Program_levels : FnScope ["self"] ["self"] (defScope (memS 29 6)) := ⟨rfl, rfl, rfl, by decide +kernel, rfl, by decide +kernel, by decide +kernel⟩
theorem m_Program_levels (T : Tx P w K mg base ca fa pa) : FnM P w K mg base ca 1 (fa 4) 1 [] d_Program_levels := by
  obtain ⟨fd, ds, F, B, Vd⟩ := T.f_Program_levels
  exact FnM.of F sc_Program_levels rfl rfl B Vd (fun _ => rfl) fun cdv A outer s H E hr y => (Sts.one (St1.ret (Sd.attr (c := "Program") (f := "own_levels") (Sd.var (i := 0) rfl (.inl (by kernel_rfl)) rfl rfl) T.c_Program T.n_Program_own_levels)))
theorem sc_Program_size : FnScope ["self"] ["self"] (defScope (memS 29 7)) := ⟨rfl, rfl, rfl, by decide +kernel, rfl, by decide +kernel, by decide +kernel⟩
theorem m_Program_size (T : Tx P w K mg base ca fa pa) : FnM P w K mg base ca 1 (fa 5) 1 [] d_Program_size := by
  obtain ⟨fd, ds, F, B, Vd⟩ := T.f_Program_size
  exact FnM.of F sc_Program_size rfl rfl B Vd (fun _ => rfl) fun cdv A outer s H E hr y => (Sts.one (St1.ret (Sd.attr (c := "Program") (f := "own_size") (Sd.var (i := 0) rfl (.inl (by kernel_rfl)) rfl rfl) T.c_Program T.n_Program_own_size)))
theorem sc_Program_main : FnScope ["self"] ["self"] (defScope (memS 29 8)) := ⟨rfl, rfl, rfl, by decide +kernel, rfl, by decide +kernel, by decide +kernel⟩
theorem m_Program_main (T : Tx P w K mg base ca fa pa) : FnM P w K mg base ca 1 (fa 6) 1 [] d_Program_main := by
  obtain ⟨fd, ds, F, B, Vd⟩ := T.f_Program_main
  exact FnM.of F sc_Program_main rfl rfl B Vd (fun _ => rfl) fun cdv A outer s H E hr y => (Sts.one (St1.ret (Sd.attr (c := "Program") (f := "own_main") (Sd.var (i := 0) rfl (.inl (by kernel_rfl)) rfl rfl) T.c_Program T.n_Program_own_main)))
theorem sc_is_sign_part : FnScope ["program", "sign", "value", "many"] ["program", "sign", "value", "many"] (defScope (topS 25)) := ⟨rfl, rfl, rfl, by decide +kernel, rfl, by decide +kernel, by decide +kernel⟩
theorem m_is_sign_part (T : Tx P w K mg base ca fa pa) : FnM P w K mg base ca 3 (fa 7) 4 [] d_is_sign_part := by
  obtain ⟨fd, ds, F, B, Vd⟩ := T.f_is_sign_part
  exact FnM.of F sc_is_sign_part rfl rfl B Vd (fun _ => rfl) fun cdv A outer s H E hr y => (Sts.cons y (St1.if_ (Sd.cmp (o := .eq) y.hu (Sd.var (i := 1) rfl (.inl (by kernel_rfl)) rfl rfl) Sd.str rfl) (Sts.one (St1.ret (Sd.and_ (.cons (Sd.call (x := "is_word") ((m_is_word T).mono (by decide : 1 ≤ 2)) hr y.tk rfl T.g_is_word (.cons (Sd.var (i := 2) rfl (.inl (by kernel_rfl)) rfl rfl) rfl .nil) rfl rfl) rfl (.cons (Sd.cmp (o := .in_) y.hu (Sd.var (i := 2) rfl (.inl (by kernel_rfl)) rfl rfl) (Sd.attr (c := "Program") (f := "firsts") (Sd.var (i := 0) rfl (.inl (by kernel_rfl)) rfl rfl) T.c_Program T.n_Program_firsts) rfl) rfl .nil)) rfl (List.cons_ne_nil _ _)))) Sts.nil) (Sts.cons y (St1.if_ (Sd.cmp (o := .eq) y.hu (Sd.var (i := 1) rfl (.inl (by kernel_rfl)) rfl rfl) Sd.str rfl) (Sts.one (St1.ret (Sd.call (x := "is_within") ((m_is_within T).mono (by decide : 2 ≤ 2)) hr y.tk rfl T.g_is_within (.cons (Sd.var (i := 2) rfl (.inl (by kernel_rfl)) rfl rfl) rfl (.cons Sd.int rfl (.cons (Sd.bin (o := .sub) (Sd.prop (pp := "size") (cl := "Program") ((m_Program_size T).mono (by decide : 1 ≤ 1)) hr (Sd.var (i := 0) rfl (.inl (by kernel_rfl)) rfl rfl) T.c_Program T.p_Program_size) Sd.int) rfl .nil))) rfl rfl))) Sts.nil) (Sts.cons y (St1.if_ (Sd.cmp (o := .eq) y.hu (Sd.var (i := 1) rfl (.inl (by kernel_rfl)) rfl rfl) Sd.str rfl) (Sts.one (St1.ret (Sd.call (x := "is_within") ((m_is_within T).mono (by decide : 2 ≤ 2)) hr y.tk rfl T.g_is_within (.cons (Sd.var (i := 2) rfl (.inl (by kernel_rfl)) rfl rfl) rfl (.cons Sd.int rfl (.cons (Sd.var (i := 3) rfl (.inl (by kernel_rfl)) rfl rfl) rfl .nil))) rfl rfl))) Sts.nil) (Sts.cons y (St1.if_ (Sd.cmp (o := .eq) y.hu (Sd.var (i := 1) rfl (.inl (by kernel_rfl)) rfl rfl) Sd.str rfl) (Sts.one (St1.ret (Sd.and_ (.cons (Sd.call (x := "is_word") ((m_is_word T).mono (by decide : 1 ≤ 2)) hr y.tk rfl T.g_is_word (.cons (Sd.var (i := 2) rfl (.inl (by kernel_rfl)) rfl rfl) rfl .nil) rfl rfl) rfl (.cons (Sd.cmp (o := .in_) y.hu (Sd.var (i := 2) rfl (.inl (by kernel_rfl)) rfl rfl) (Sd.attr (c := "Program") (f := "lists") (Sd.var (i := 0) rfl (.inl (by kernel_rfl)) rfl rfl) T.c_Program T.n_Program_lists) rfl) rfl .nil)) rfl (List.cons_ne_nil _ _)))) Sts.nil) (Sts.one (St1.ret (Sd.ite (Sd.cmp (o := .eq) y.hu (Sd.var (i := 1) rfl (.inl (by kernel_rfl)) rfl rfl) Sd.str rfl) (Sd.call (x := "is_within") ((m_is_within T).mono (by decide : 2 ≤ 2)) hr y.tk rfl T.g_is_within (.cons (Sd.var (i := 2) rfl (.inl (by kernel_rfl)) rfl rfl) rfl (.cons Sd.int rfl (.cons (Sd.prop (pp := "levels") (cl := "Program") ((m_Program_levels T).mono (by decide : 1 ≤ 1)) hr (Sd.var (i := 0) rfl (.inl (by kernel_rfl)) rfl rfl) T.c_Program T.p_Program_levels) rfl .nil))) rfl rfl) (Sd.call (x := "is_word") ((m_is_word T).mono (by decide : 1 ≤ 2)) hr y.tk rfl T.g_is_word (.cons (Sd.var (i := 2) rfl (.inl (by kernel_rfl)) rfl rfl) rfl .nil) rfl rfl))))))))
theorem sc_is_row : FnScope ["program", "value", "many", "form", "sign", "part"] ["program", "value", "many"] (defScope (topS 26)) := ⟨rfl, rfl, rfl, by decide +kernel, rfl, by decide +kernel, by decide +kernel⟩
theorem m_is_row (T : Tx P w K mg base ca fa pa) : FnM P w K mg base ca 4 (fa 8) 3 [] d_is_row := by
  obtain ⟨fd, ds, F, B, Vd⟩ := T.f_is_row
  exact FnM.of F sc_is_row rfl rfl B Vd (fun _ => rfl) fun cdv A outer s H E hr y => (Sts.cons y (St1.if_ (Sd.or_ (.cons (Sd.not_ (Sd.isi (t := .tuple) (Sd.var (i := 1) rfl (.inl (by kernel_rfl)) rfl rfl) rfl T.z_isinstance bt_isinstance rfl T.z_tuple bt_tuple)) rfl (.cons (Sd.cmp (o := .eq) y.hu (Sd.var (i := 1) rfl (.inl (by kernel_rfl)) rfl rfl) (Sd.tup .nil) rfl) rfl (.cons (Sd.not_ (Sd.isi (t := .str) (Sd.idx y.u16 (Sd.var (i := 1) rfl (.inl (by kernel_rfl)) rfl rfl) Sd.int (fun _ _ => rfl)) rfl T.z_isinstance bt_isinstance rfl T.z_str bt_str)) rfl (.cons (Sd.ninG (T.forms rfl rfl rfl) rfl (Sd.idx y.u16 (Sd.var (i := 1) rfl (.inl (by kernel_rfl)) rfl rfl) Sd.int (fun _ _ => rfl))) rfl .nil)))) rfl (List.cons_ne_nil _ _)) (Sts.one (St1.ret Sd.bl)) Sts.nil) (Sts.cons y (St1.set (i := 3) y (Sd.ixG (T.forms rfl rfl rfl) rfl (Sd.idx y.u16 (Sd.var (i := 1) rfl (.inl (by kernel_rfl)) rfl rfl) Sd.int (fun _ _ => rfl)) (fun _ _ => rfl)) rfl (.inl (by kernel_rfl))) (Sts.cons y (St1.if_ (Sd.or_ (.cons (Sd.cmp (o := .ne) y.hu (Sd.biB (b := .len) cb_len (Sd.var (i := 1) rfl (.inl (by kernel_rfl)) rfl rfl) rfl T.z_len bt_len) (Sd.bin (o := .add) (Sd.biB (b := .len) cb_len (Sd.var (i := 3) rfl (.inl (by kernel_rfl)) rfl rfl) rfl T.z_len bt_len) Sd.int) rfl) rfl (.cons (Sd.and_ (.cons (Sd.cmp (o := .eq) y.hu (Sd.idx y.u16 (Sd.var (i := 1) rfl (.inl (by kernel_rfl)) rfl rfl) Sd.int (fun _ _ => rfl)) Sd.str rfl) rfl (.cons (Sd.cmp (o := .ge) y.hu (Sd.prop (pp := "levels") (cl := "Program") ((m_Program_levels T).mono (by decide : 1 ≤ 2)) hr (Sd.var (i := 0) rfl (.inr (.inl (by kernel_rfl))) rfl rfl) T.c_Program T.p_Program_levels) (Sd.prop (pp := "size") (cl := "Program") ((m_Program_size T).mono (by decide : 1 ≤ 2)) hr (Sd.var (i := 0) rfl (.inr (.inl (by kernel_rfl))) rfl rfl) T.c_Program T.p_Program_size) rfl) rfl .nil)) rfl (List.cons_ne_nil _ _)) rfl .nil)) rfl (List.cons_ne_nil _ _)) (Sts.one (St1.ret Sd.bl)) Sts.nil) (Sts.one (St1.ret (Sd.biB (b := .all) (cb_all y.calm) (Sd.lc (own := [("sign", 4), ("part", 5)]) y (Si.zipS (Sd.var (i := 3) rfl (.inl (by kernel_rfl)) rfl rfl) (Sd.sli (Sd.var (i := 1) rfl (.inl (by kernel_rfl)) rfl rfl) (.some Sd.int) .none) rfl T.z_zip) (Mp.BlkOk.of (by kernel_rfl)) (by decide) (fun s H C cl fp => (PgT (y.blk).calm (y.blk).nd (.cons rfl (.inl (by kernel_rfl)) (.inr (by kernel_rfl)) (.cons rfl (.inl (by kernel_rfl)) (.inr (by kernel_rfl)) .nil)))) (fun s H C cl fp => .nil) (fun s H C cl fp => (Sd.call (x := "is_sign_part") ((m_is_sign_part T).mono (by decide : 3 ≤ 3)) hr (y.blk).tk rfl T.g_is_sign_part (.cons (Sd.var (i := 0) rfl (.inr (.inl (by kernel_rfl))) rfl rfl) rfl (.cons (Sd.var (i := 4) rfl (.inl (by kernel_rfl)) rfl rfl) rfl (.cons (Sd.var (i := 5) rfl (.inl (by kernel_rfl)) rfl rfl) rfl (.cons (Sd.var (i := 2) rfl (.inr (.inl (by kernel_rfl))) rfl rfl) rfl .nil)))) rfl rfl))) rfl T.z_all bt_all))))))
theorem sc_sections_of : FnScope ["lists", "found", "listed", "row"] ["lists"] (defScope (topS 27)) := ⟨rfl, rfl, rfl, by decide +kernel, rfl, by decide +kernel, by decide +kernel⟩
theorem m_sections_of (T : Tx P w K mg base ca fa pa) : FnM P w K mg base ca 1 (fa 9) 1 [] d_sections_of := by
  obtain ⟨fd, ds, F, B, Vd, L⟩ := T.f_sections_of
  refine FnM.ofC F sc_sections_of rfl rfl B Vd (fun _ => rfl) fun A outer s H E hr y => ?_
  obtain ⟨c, P0, La⟩ := L.at_ (P := P) (w := w) (K := K) (N := ["lists", "found", "listed", "row"]) (scope := (defScope (topS 27))) (f := fa 9) (A := A) (outer := outer) (s := s) (H := H) (E := E)
  exact (Sts.cons y (St1.set (i := 1) y (Sd.dct (k := false) y.u16 .nil) rfl (.inl (by kernel_rfl))) (Sts.cons y (St1.for_ (t := .name 2) y (Si.vals (Sd.var (i := 0) rfl (.inl (by kernel_rfl)) rfl rfl)) (TgOk.n y rfl (.inl (by kernel_rfl)) (.inr (by kernel_rfl))) (Sts.one (St1.for_ (t := .name 3) y (Si.val y.u16 (Sd.var (i := 2) rfl (.inl (by kernel_rfl)) rfl rfl)) (TgOk.n y rfl (.inl (by kernel_rfl)) (.inr (by kernel_rfl))) (Sts.one (St1.if_ (Sd.cmp (o := .in_) y.hu (Sd.idx y.u16 (Sd.var (i := 3) rfl (.inl (by kernel_rfl)) rfl rfl) Sd.int (fun _ _ => rfl)) (Sd.tup (.cons Sd.str rfl (.cons Sd.str rfl .nil))) rfl) Sts.never Sts.nil))))) (Sts.one (St1.ret (Sd.sortI y hr La (Mp.LamStr.of (by kernel_rfl) (fun _ _ _ _ _ _ _ => rfl)) (Sd.var (i := 1) rfl (.inl (by kernel_rfl)) rfl rfl) rfl rfl T.z_sorted T.z_str rfl)))))
theorem sc_has_ring : FnScope ["lists", "left", "word", "row", "done", "called"] ["lists"] (defScope (topS 28)) := ⟨rfl, rfl, rfl, by decide +kernel, rfl, by decide +kernel, by decide +kernel⟩
theorem m_has_ring (T : Tx P w K mg base ca fa pa) : FnM P w K mg base ca 1 (fa 10) 1 [] d_has_ring := by
  obtain ⟨fd, ds, F, B, Vd⟩ := T.f_has_ring
  exact FnM.of F sc_has_ring rfl rfl B Vd (fun _ => rfl) fun cdv A outer s H E hr y => (Sts.cons y (St1.set (i := 1) y (Sd.dc (own := [("word", 2)]) (kk := false) y (Si.val y.u16 (Sd.var (i := 0) rfl (.inr (.inl (by kernel_rfl))) rfl rfl)) (Mp.BlkOk.of (by kernel_rfl)) (by decide) (fun s H C cl fp => (PgN (y.blk).nd rfl (.inl (by kernel_rfl)) (.inr (by kernel_rfl)))) (fun s H C cl fp => .nil) (fun s H C cl fp => (Sd.var (i := 2) rfl (.inl (by kernel_rfl)) rfl rfl)) (fun s H C cl fp => (Sd.lc (own := [("row", 3)]) (y.blk) (Si.val (y.blk).u16 (Sd.idx (y.blk).u16 (Sd.var (i := 0) rfl (.inr (.inl (by kernel_rfl))) rfl rfl) (Sd.var (i := 2) rfl (.inl (by kernel_rfl)) rfl rfl) (fun _ _ => rfl))) (Mp.BlkOk.of (by kernel_rfl)) (by decide) (fun s H C cl fp => (PgN ((y.blk).blk).nd rfl (.inl (by kernel_rfl)) (.inr (by kernel_rfl)))) (fun s H C cl fp => .one (Sd.cmp (o := .eq) ((y.blk).blk).hu (Sd.idx ((y.blk).blk).u16 (Sd.var (i := 3) rfl (.inl (by kernel_rfl)) rfl rfl) Sd.int (fun _ _ => rfl)) Sd.str rfl)) (fun s H C cl fp => Sd.bad')))) rfl (.inr (by kernel_rfl))) (Sts.cons y (St1.while_ (fuel := 4) y (Sd.var (i := 1) rfl (.inr (.inl (by kernel_rfl))) rfl rfl) (Sts.cons y (St1.set (i := 4) y (Sd.lc (own := [("word", 2)]) y (Si.val y.u16 (Sd.var (i := 1) rfl (.inr (.inl (by kernel_rfl))) rfl rfl)) (Mp.BlkOk.of (by kernel_rfl)) (by decide) (fun s H C cl fp => (PgN (y.blk).nd rfl (.inl (by kernel_rfl)) (.inr (by kernel_rfl)))) (fun s H C cl fp => .one (Sd.not_ (Sd.biB (b := .any) (cb_any (y.blk).calm) (Sd.lc (own := [("called", 5)]) (y.blk) (Si.val (y.blk).u16 (Sd.idx (y.blk).u16 (Sd.var (i := 1) rfl (.inr (.inl (by kernel_rfl))) rfl rfl) (Sd.var (i := 2) rfl (.inl (by kernel_rfl)) rfl rfl) (fun _ _ => rfl))) (Mp.BlkOk.of (by kernel_rfl)) (by decide) (fun s H C cl fp => (PgN ((y.blk).blk).nd rfl (.inl (by kernel_rfl)) (.inr (by kernel_rfl)))) (fun s H C cl fp => .nil) (fun s H C cl fp => Sd.bad')) rfl T.z_any bt_any))) (fun s H C cl fp => (Sd.var (i := 2) rfl (.inl (by kernel_rfl)) rfl rfl))) rfl (.inr (by kernel_rfl))) (Sts.cons y (St1.if_ (Sd.cmp (o := .eq) y.hu (Sd.var (i := 4) rfl (.inr (.inl (by kernel_rfl))) rfl rfl) (Sd.lst .nil) rfl) (Sts.one (St1.ret Sd.bl)) Sts.nil) (Sts.one (St1.set (i := 1) y (Sd.dc (own := [("word", 2)]) (kk := false) y (Si.val y.u16 (Sd.var (i := 1) rfl (.inr (.inl (by kernel_rfl))) rfl rfl)) (Mp.BlkOk.of (by kernel_rfl)) (by decide) (fun s H C cl fp => (PgN (y.blk).nd rfl (.inl (by kernel_rfl)) (.inr (by kernel_rfl)))) (fun s H C cl fp => .one (Sd.cmp (o := .nin) (y.blk).hu (Sd.var (i := 2) rfl (.inl (by kernel_rfl)) rfl rfl) (Sd.var (i := 4) rfl (.inr (.inl (by kernel_rfl))) rfl rfl) rfl)) (fun s H C cl fp => (Sd.var (i := 2) rfl (.inl (by kernel_rfl)) rfl rfl)) (fun s H C cl fp => (Sd.idx (y.blk).u16 (Sd.var (i := 1) rfl (.inr (.inl (by kernel_rfl))) rfl rfl) (Sd.var (i := 2) rfl (.inl (by kernel_rfl)) rfl rfl) (fun _ _ => rfl)))) rfl (.inr (by kernel_rfl))))))) (Sts.one (St1.ret Sd.bl))))
theorem sc_Program_spots : FnScope ["self", "word", "point"] ["self"] (defScope (memS 29 1)) := ⟨rfl, rfl, rfl, by decide +kernel, rfl, by decide +kernel, by decide +kernel⟩
theorem m_Program_spots (T : Tx P w K mg base ca fa pa) : FnM P w K mg base ca 1 (fa 11) 1 [] d_Program_spots := by
  obtain ⟨fd, ds, F, B, Vd⟩ := T.f_Program_spots
  exact FnM.of F sc_Program_spots rfl rfl B Vd (fun _ => rfl) fun cdv A outer s H E hr y => (Sts.one (St1.ret (Sd.lc2 (own := [("word", 1), ("point", 2)]) y (Si.val y.u16 (Sd.attr (c := "Program") (f := "lists") (Sd.var (i := 0) rfl (.inr (.inl (by kernel_rfl))) rfl rfl) T.c_Program T.n_Program_lists)) (Mp.BlkOk.of (by kernel_rfl)) (by decide) (by decide) (by decide) (fun s H C cl fp => (PgN (y.blk).nd rfl (.inl (by kernel_rfl)) (.inr (by kernel_rfl)))) (fun s H C cl fp => (Si.range1 (Sd.bin (o := .add) (Sd.biB (b := .len) cb_len (Sd.idx (y.blk).u16 (Sd.attr (c := "Program") (f := "lists") (Sd.var (i := 0) rfl (.inr (.inl (by kernel_rfl))) rfl rfl) T.c_Program T.n_Program_lists) (Sd.var (i := 1) rfl (.inl (by kernel_rfl)) rfl rfl) (fun _ _ => rfl)) rfl T.z_len bt_len) Sd.int) rfl T.z_range)) (fun s H C cl fp => (PgN (y.blk).nd rfl (.inl (by kernel_rfl)) (.inr (by kernel_rfl)))) (fun s H C cl fp => (Sd.tup (.cons (Sd.var (i := 1) rfl (.inl (by kernel_rfl)) rfl rfl) rfl (.cons (Sd.var (i := 2) rfl (.inl (by kernel_rfl)) rfl rfl) rfl .nil)))))))
theorem sc_Program_keep_rows : FnScope ["self", "procedures", "word", "many", "row"] ["self", "procedures"] (defScope (memS 29 2)) := ⟨rfl, rfl, rfl, by decide +kernel, rfl, by decide +kernel, by decide +kernel⟩
theorem m_Program_keep_rows (T : Tx P w K mg base ca fa pa) : FnM P w K mg base ca 5 (fa 12) 2 [] d_Program_keep_rows := by
  obtain ⟨fd, ds, F, B, Vd, L⟩ := T.f_Program_keep_rows
  refine FnM.ofC F sc_Program_keep_rows rfl rfl B Vd (fun _ => rfl) fun A outer s H E hr y => ?_
  obtain ⟨c, P0, La⟩ := L.at_ (P := P) (w := w) (K := K) (N := ["self", "procedures", "word", "many", "row"]) (scope := (defScope (memS 29 2))) (f := fa 12) (A := A) (outer := outer) (s := s) (H := H) (E := E)
  exact (Sts.cons y (St1.for_ (t := .name 2) y (Si.val y.u16 (Sd.sortI y hr La (Mp.LamStr.of (by kernel_rfl) (fun _ _ _ _ _ _ _ => rfl)) (Sd.var (i := 1) rfl (.inl (by kernel_rfl)) rfl rfl) rfl rfl T.z_sorted T.z_str rfl)) (TgOk.n y rfl (.inl (by kernel_rfl)) (.inr (by kernel_rfl))) (Sts.cons y (St1.if_ (Sd.or_ (.cons (Sd.not_ (Sd.isi (t := .list) (Sd.idx y.u16 (Sd.var (i := 1) rfl (.inl (by kernel_rfl)) rfl rfl) (Sd.var (i := 2) rfl (.inl (by kernel_rfl)) rfl rfl) (fun _ _ => rfl)) rfl T.z_isinstance bt_isinstance rfl T.z_list bt_list)) rfl (.cons (Sd.cmp (o := .gt) y.hu (Sd.biB (b := .len) cb_len (Sd.idx y.u16 (Sd.var (i := 1) rfl (.inl (by kernel_rfl)) rfl rfl) (Sd.var (i := 2) rfl (.inl (by kernel_rfl)) rfl rfl) (fun _ _ => rfl)) rfl T.z_len bt_len) (Sd.globI rfl T.v_MOST_ROWS rfl) rfl) rfl .nil)) rfl (List.cons_ne_nil _ _)) (Sts.one (St1.ret Sd.bl)) Sts.nil) (Sts.one (St1.setI y (Sd.attr (c := "Program") (f := "lists") (Sd.var (i := 0) rfl (.inr (.inl (by kernel_rfl))) rfl rfl) T.c_Program T.n_Program_lists) (Sd.var (i := 2) rfl (.inl (by kernel_rfl)) rfl rfl) (Sd.biT (b := .list) (cb_list y.calm) (Sd.idx y.u16 (Sd.var (i := 1) rfl (.inl (by kernel_rfl)) rfl rfl) (Sd.var (i := 2) rfl (.inl (by kernel_rfl)) rfl rfl) (fun _ _ => rfl)) rfl T.z_list bt_list))))) (Sts.frzF (i := 0) (f := "lists") (Sts.cons y (St1.for_ (t := .name 2) y (Si.val y.u16 (Sd.attr (c := "Program") (f := "lists") (Sd.var (i := 0) rfl (.inr (.inl (by kernel_rfl))) rfl rfl) T.c_Program T.n_Program_lists)) (TgOk.n y rfl (.inl (by kernel_rfl)) (.inr (by kernel_rfl))) (Sts.cons y (St1.set (i := 3) y (Sd.biB (b := .len) cb_len (Sd.idx y.u16 (Sd.attr (c := "Program") (f := "lists") (Sd.var (i := 0) rfl (.inr (.inl (by kernel_rfl))) rfl rfl) T.c_Program T.n_Program_lists) (Sd.var (i := 2) rfl (.inl (by kernel_rfl)) rfl rfl) (fun _ _ => rfl)) rfl T.z_len bt_len) rfl (.inr (by kernel_rfl))) (Sts.one (St1.if_ (Sd.not_ (Sd.biB (b := .all) (cb_all y.calm) (Sd.lc (own := [("row", 4)]) y (Si.val y.u16 (Sd.idx y.u16 (Sd.attr (c := "Program") (f := "lists") (Sd.var (i := 0) rfl (.inr (.inl (by kernel_rfl))) rfl rfl) T.c_Program T.n_Program_lists) (Sd.var (i := 2) rfl (.inl (by kernel_rfl)) rfl rfl) (fun _ _ => rfl))) (Mp.BlkOk.of (by kernel_rfl)) (by decide) (fun s H C cl fp => (PgN (y.blk).nd rfl (.inl (by kernel_rfl)) (.inr (by kernel_rfl)))) (fun s H C cl fp => .nil) (fun s H C cl fp => (Sd.call (x := "is_row") ((m_is_row T).mono (by decide : 4 ≤ 4)) hr (y.blk).tk rfl T.g_is_row (.cons (Sd.var (i := 0) rfl (.inr (.inl (by kernel_rfl))) rfl rfl) rfl (.cons (Sd.var (i := 4) rfl (.inl (by kernel_rfl)) rfl rfl) rfl (.cons (Sd.var (i := 3) rfl (.inr (.inl (by kernel_rfl))) rfl rfl) rfl .nil))) rfl rfl))) rfl T.z_all bt_all)) (Sts.one (St1.ret Sd.bl)) Sts.nil)))) (Sts.one (St1.ret Sd.bl)))))
theorem sc_Program_is_served : FnScope ["self", "value"] ["self", "value"] (defScope (memS 29 3)) := ⟨rfl, rfl, rfl, by decide +kernel, rfl, by decide +kernel, by decide +kernel⟩
theorem m_Program_is_served (T : Tx P w K mg base ca fa pa) : FnM P w K mg base ca 3 (fa 13) 2 [] d_Program_is_served := by
  obtain ⟨fd, ds, F, B, Vd⟩ := T.f_Program_is_served
  exact FnM.of F sc_Program_is_served rfl rfl B Vd (fun _ => rfl) fun cdv A outer s H E hr y => (Sts.cons y (St1.if_ (Sd.or_ (.cons (Sd.not_ (Sd.isi (t := .tuple) (Sd.var (i := 1) rfl (.inl (by kernel_rfl)) rfl rfl) rfl T.z_isinstance bt_isinstance rfl T.z_tuple bt_tuple)) rfl (.cons (Sd.cmp (o := .ne) y.hu (Sd.biB (b := .len) cb_len (Sd.var (i := 1) rfl (.inl (by kernel_rfl)) rfl rfl) rfl T.z_len bt_len) Sd.int rfl) rfl (.cons (Sd.not_ (Sd.call (x := "is_within") ((m_is_within T).mono (by decide : 2 ≤ 2)) hr y.tk rfl T.g_is_within (.cons (Sd.idx y.u16 (Sd.var (i := 1) rfl (.inl (by kernel_rfl)) rfl rfl) Sd.int (fun _ _ => rfl)) rfl (.cons Sd.int rfl (.cons (Sd.attr (c := "Program") (f := "own_levels") (Sd.var (i := 0) rfl (.inl (by kernel_rfl)) rfl rfl) T.c_Program T.n_Program_own_levels) rfl .nil))) rfl rfl)) rfl .nil))) rfl (List.cons_ne_nil _ _)) (Sts.one (St1.ret Sd.bl)) Sts.nil) (Sts.one (St1.ret (Sd.and_ (.cons (Sd.call (x := "is_word") ((m_is_word T).mono (by decide : 1 ≤ 2)) hr y.tk rfl T.g_is_word (.cons (Sd.idx y.u16 (Sd.var (i := 1) rfl (.inl (by kernel_rfl)) rfl rfl) Sd.int (fun _ _ => rfl)) rfl .nil) rfl rfl) rfl (.cons (Sd.cmp (o := .in_) y.hu (Sd.idx y.u16 (Sd.var (i := 1) rfl (.inl (by kernel_rfl)) rfl rfl) Sd.int (fun _ _ => rfl)) (Sd.attr (c := "Program") (f := "lists") (Sd.var (i := 0) rfl (.inl (by kernel_rfl)) rfl rfl) T.c_Program T.n_Program_lists) rfl) rfl .nil)) rfl (List.cons_ne_nil _ _)))))
theorem sc_Program_are_guards : FnScope ["self", "value", "spot"] ["self", "value"] (defScope (memS 29 5)) := ⟨rfl, rfl, rfl, by decide +kernel, rfl, by decide +kernel, by decide +kernel⟩
theorem m_Program_are_guards (T : Tx P w K mg base ca fa pa) : FnM P w K mg base ca 1 (fa 14) 2 [] d_Program_are_guards := by
  obtain ⟨fd, ds, F, B, Vd⟩ := T.f_Program_are_guards
  exact FnM.of F sc_Program_are_guards rfl rfl B Vd (fun _ => rfl) fun cdv A outer s H E hr y => (Sts.cons y (St1.if_ (Sd.not_ (Sd.isi (t := .dict) (Sd.var (i := 1) rfl (.inr (.inl (by kernel_rfl))) rfl rfl) rfl T.z_isinstance bt_isinstance rfl T.z_dict bt_dict)) (Sts.one (St1.ret Sd.bl)) Sts.nil) (Sts.one (St1.ret (Sd.biB (b := .all) (cb_all y.calm) (Sd.lc (own := [("spot", 2)]) y (Si.val y.u16 (Sd.var (i := 1) rfl (.inr (.inl (by kernel_rfl))) rfl rfl)) (Mp.BlkOk.of (by kernel_rfl)) (by decide) (fun s H C cl fp => (PgN (y.blk).nd rfl (.inl (by kernel_rfl)) (.inr (by kernel_rfl)))) (fun s H C cl fp => .nil) (fun s H C cl fp => Sd.bad')) rfl T.z_all bt_all))))
theorem sc_Program___init__ : FnScope ["self", "levels", "size", "start", "procedures", "lines", "main", "guards", "cell", "stores", "section", "word", "given", "spot"] ["self", "levels", "size", "start", "procedures", "lines", "main", "guards"] (defScope (memS 29 0)) := ⟨rfl, rfl, rfl, by decide +kernel, rfl, by decide +kernel, by decide +kernel⟩
theorem m_Program___init__ (T : Tx P w K mg base ca fa pa) : FnM P w K mg base ca 6 (fa 15) 8 [.str "main", .non] d_Program___init__ := by
  obtain ⟨fd, ds, F, B, Vd, L⟩ := T.f_Program___init__
  refine FnM.ofC F sc_Program___init__ rfl rfl B Vd (fun _ => ⟨_, _, rfl, rfl, _, _, rfl, rfl, rfl⟩) fun A outer s H E hr y => ?_
  obtain ⟨c, P0, La⟩ := L.at_ (P := P) (w := w) (K := K) (N := ["self", "levels", "size", "start", "procedures", "lines", "main", "guards", "cell", "stores", "section", "word", "given", "spot"]) (scope := (defScope (memS 29 0))) (f := fa 15) (A := A) (outer := outer) (s := s) (H := H) (E := E)
  exact (Sts.cons y (St1.if_ (Sd.not_ (Sd.call (x := "is_within") ((m_is_within T).mono (by decide : 2 ≤ 5)) hr y.tk rfl T.g_is_within (.cons (Sd.var (i := 1) rfl (.inl (by kernel_rfl)) rfl rfl) rfl (.cons Sd.int rfl (.cons (Sd.globI rfl T.v_MOST_LEVELS rfl) rfl .nil))) rfl rfl)) Sts.never Sts.nil) (Sts.cons y (St1.if_ (Sd.not_ (Sd.call (x := "is_within") ((m_is_within T).mono (by decide : 2 ≤ 5)) hr y.tk rfl T.g_is_within (.cons (Sd.var (i := 2) rfl (.inr (.inl (by kernel_rfl))) rfl rfl) rfl (.cons Sd.int rfl (.cons (Sd.globI rfl T.v_MOST_VALUES rfl) rfl .nil))) rfl rfl)) Sts.never Sts.nil) (Sts.cons y (St1.setA (cl := "Program") (f := "own_levels") (Sd.var (i := 0) rfl (.inr (.inl (by kernel_rfl))) rfl rfl) (Sd.var (i := 1) rfl (.inl (by kernel_rfl)) rfl rfl) T.c_Program T.n_Program_own_levels) (Sts.cons y (St1.setA (cl := "Program") (f := "own_size") (Sd.var (i := 0) rfl (.inr (.inl (by kernel_rfl))) rfl rfl) (Sd.var (i := 2) rfl (.inr (.inl (by kernel_rfl))) rfl rfl) T.c_Program T.n_Program_own_size) (Sts.cons y (St1.if_ (Sd.or_ (.cons (Sd.not_ (Sd.call (x := "are_words") ((m_are_words T).mono (by decide : 2 ≤ 5)) hr y.tk rfl T.g_are_words (.cons (Sd.var (i := 3) rfl (.inr (.inl (by kernel_rfl))) rfl rfl) rfl (.cons Sd.int rfl (.cons (Sd.globI rfl T.v_MOST_CELLS rfl) rfl .nil))) rfl rfl)) rfl (.cons (Sd.not_ (Sd.biB (b := .all) (cb_all y.calm) (Sd.lc (own := [("cell", 8)]) y (Si.val y.u16 (Sd.var (i := 3) rfl (.inr (.inl (by kernel_rfl))) rfl rfl)) (Mp.BlkOk.of (by kernel_rfl)) (by decide) (fun s H C cl fp => (PgN (y.blk).nd rfl (.inl (by kernel_rfl)) (.inr (by kernel_rfl)))) (fun s H C cl fp => .nil) (fun s H C cl fp => (Sd.call (x := "is_within") ((m_is_within T).mono (by decide : 2 ≤ 5)) hr (y.blk).tk rfl T.g_is_within (.cons (Sd.idx (y.blk).u16 (Sd.var (i := 3) rfl (.inr (.inl (by kernel_rfl))) rfl rfl) (Sd.var (i := 8) rfl (.inl (by kernel_rfl)) rfl rfl) (fun _ _ => rfl)) rfl (.cons Sd.int rfl (.cons (Sd.bin (o := .sub) (Sd.var (i := 2) rfl (.inr (.inl (by kernel_rfl))) rfl rfl) Sd.int) rfl .nil))) rfl rfl))) rfl T.z_all bt_all)) rfl .nil)) rfl (List.cons_ne_nil _ _)) Sts.never Sts.nil) (Sts.cons y (St1.set (i := 9) y Sd.int rfl (.inl (by kernel_rfl))) (Sts.cons y (St1.for_ (t := .name 8) y (Si.val y.u16 (Sd.var (i := 3) rfl (.inr (.inl (by kernel_rfl))) rfl rfl)) (TgOk.n y rfl (.inl (by kernel_rfl)) (.inr (by kernel_rfl))) (Sts.one (St1.set (i := 9) y (Sd.bin (o := .mul) (Sd.var (i := 9) rfl (.inl (by kernel_rfl)) rfl rfl) (Sd.var (i := 2) rfl (.inr (.inl (by kernel_rfl))) rfl rfl)) rfl (.inl (by kernel_rfl))))) (Sts.cons y (St1.if_ (Sd.cmp (o := .gt) y.hu (Sd.var (i := 9) rfl (.inl (by kernel_rfl)) rfl rfl) (Sd.globI rfl T.v_MOST_STORES rfl) rfl) Sts.never Sts.nil) (Sts.cons y (St1.setA (cl := "Program") (f := "firsts") (Sd.var (i := 0) rfl (.inr (.inl (by kernel_rfl))) rfl rfl) (Sd.dc (own := [("cell", 8)]) (kk := false) y (Si.val y.u16 (Sd.sortI y hr La (Mp.LamStr.of (by kernel_rfl) (fun _ _ _ _ _ _ _ => rfl)) (Sd.var (i := 3) rfl (.inr (.inl (by kernel_rfl))) rfl rfl) rfl rfl T.z_sorted T.z_str rfl)) (Mp.BlkOk.of (by kernel_rfl)) (by decide) (fun s H C cl fp => (PgN (y.blk).nd rfl (.inl (by kernel_rfl)) (.inr (by kernel_rfl)))) (fun s H C cl fp => .nil) (fun s H C cl fp => (Sd.var (i := 8) rfl (.inl (by kernel_rfl)) rfl rfl)) (fun s H C cl fp => (Sd.idx (y.blk).u16 (Sd.var (i := 3) rfl (.inr (.inl (by kernel_rfl))) rfl rfl) (Sd.var (i := 8) rfl (.inl (by kernel_rfl)) rfl rfl) (fun _ _ => rfl)))) T.c_Program T.n_Program_firsts) (Sts.cons y (St1.setA (cl := "Program") (f := "lists") (Sd.var (i := 0) rfl (.inr (.inl (by kernel_rfl))) rfl rfl) (Sd.loc (n := Dn.dct false [] []) (new_dct (k := false) y.u16 (by decide) .nil) rfl) T.c_Program T.n_Program_lists) (Sts.cons y (St1.if_ (Sd.or_ (.cons (Sd.not_ (Sd.call (x := "are_words") ((m_are_words T).mono (by decide : 2 ≤ 5)) hr y.tk rfl T.g_are_words (.cons (Sd.var (i := 4) rfl (.inl (by kernel_rfl)) rfl rfl) rfl (.cons Sd.int rfl (.cons (Sd.globI rfl T.v_MOST_PROCEDURES rfl) rfl .nil))) rfl rfl)) rfl (.cons (Sd.not_ (Sd.meth (cl := "Program") (mm := "keep_rows") ((m_Program_keep_rows T).mono (by decide : 5 ≤ 5)) hr y (Sd.var (i := 0) rfl (.inr (.inl (by kernel_rfl))) rfl rfl) T.c_Program T.me_Program_keep_rows (.cons (Sd.var (i := 4) rfl (.inl (by kernel_rfl)) rfl rfl) rfl .nil) rfl rfl)) rfl .nil)) rfl (List.cons_ne_nil _ _)) Sts.never Sts.nil) (Sts.cons y (St1.setA (cl := "Program") (f := "own_sections") (Sd.var (i := 0) rfl (.inr (.inl (by kernel_rfl))) rfl rfl) (Sd.call (x := "sections_of") ((m_sections_of T).mono (by decide : 1 ≤ 5)) hr y.tk rfl T.g_sections_of (.cons (Sd.attr (c := "Program") (f := "lists") (Sd.var (i := 0) rfl (.inr (.inl (by kernel_rfl))) rfl rfl) T.c_Program T.n_Program_lists) rfl .nil) rfl rfl) T.c_Program T.n_Program_own_sections) (Sts.cons y (St1.if_ (Sd.or_ (.cons (Sd.cmp (o := .gt) y.hu (Sd.biB (b := .len) cb_len (Sd.attr (c := "Program") (f := "own_sections") (Sd.var (i := 0) rfl (.inr (.inl (by kernel_rfl))) rfl rfl) T.c_Program T.n_Program_own_sections) rfl T.z_len bt_len) (Sd.globI rfl T.v_MOST_SECTIONS rfl) rfl) rfl (.cons (Sd.call (x := "has_ring") ((m_has_ring T).mono (by decide : 1 ≤ 5)) hr y.tk rfl T.g_has_ring (.cons (Sd.attr (c := "Program") (f := "lists") (Sd.var (i := 0) rfl (.inr (.inl (by kernel_rfl))) rfl rfl) T.c_Program T.n_Program_lists) rfl .nil) rfl rfl) rfl .nil)) rfl (List.cons_ne_nil _ _)) Sts.never Sts.nil) (Sts.cons y (St1.if_ (Sd.biB (b := .any) (cb_any y.calm) (Sd.lc (own := [("section", 10)]) y (Si.val y.u16 (Sd.attr (c := "Program") (f := "own_sections") (Sd.var (i := 0) rfl (.inr (.inl (by kernel_rfl))) rfl rfl) T.c_Program T.n_Program_own_sections)) (Mp.BlkOk.of (by kernel_rfl)) (by decide) (fun s H C cl fp => (PgN (y.blk).nd rfl (.inl (by kernel_rfl)) (.inr (by kernel_rfl)))) (fun s H C cl fp => .nil) (fun s H C cl fp => (Sd.cmp (o := .in_) (y.blk).hu (Sd.var (i := 10) rfl (.inl (by kernel_rfl)) rfl rfl) (Sd.attr (c := "Program") (f := "firsts") (Sd.var (i := 0) rfl (.inr (.inl (by kernel_rfl))) rfl rfl) T.c_Program T.n_Program_firsts) rfl))) rfl T.z_any bt_any) Sts.never Sts.nil) (Sts.cons y (St1.if_ (Sd.or_ (.cons (Sd.not_ (Sd.call (x := "are_words") ((m_are_words T).mono (by decide : 2 ≤ 5)) hr y.tk rfl T.g_are_words (.cons (Sd.var (i := 5) rfl (.inr (.inl (by kernel_rfl))) rfl rfl) rfl (.cons Sd.int rfl (.cons (Sd.globI rfl T.v_MOST_LINES rfl) rfl .nil))) rfl rfl)) rfl (.cons (Sd.not_ (Sd.biB (b := .all) (cb_all y.calm) (Sd.lc (own := [("word", 11)]) y (Si.val y.u16 (Sd.var (i := 5) rfl (.inr (.inl (by kernel_rfl))) rfl rfl)) (Mp.BlkOk.of (by kernel_rfl)) (by decide) (fun s H C cl fp => (PgN (y.blk).nd rfl (.inl (by kernel_rfl)) (.inr (by kernel_rfl)))) (fun s H C cl fp => .nil) (fun s H C cl fp => (Sd.meth (cl := "Program") (mm := "is_served") ((m_Program_is_served T).mono (by decide : 3 ≤ 5)) hr (y.blk) (Sd.var (i := 0) rfl (.inr (.inl (by kernel_rfl))) rfl rfl) T.c_Program T.me_Program_is_served (.cons (Sd.idx (y.blk).u16 (Sd.var (i := 5) rfl (.inr (.inl (by kernel_rfl))) rfl rfl) (Sd.var (i := 11) rfl (.inl (by kernel_rfl)) rfl rfl) (fun _ _ => rfl)) rfl .nil) rfl rfl))) rfl T.z_all bt_all)) rfl .nil)) rfl (List.cons_ne_nil _ _)) Sts.never Sts.nil) (Sts.cons y (St1.setA (cl := "Program") (f := "own_lines") (Sd.var (i := 0) rfl (.inr (.inl (by kernel_rfl))) rfl rfl) (Sd.dc (own := [("word", 11)]) (kk := false) y (Si.val y.u16 (Sd.sortI y hr La (Mp.LamStr.of (by kernel_rfl) (fun _ _ _ _ _ _ _ => rfl)) (Sd.var (i := 5) rfl (.inr (.inl (by kernel_rfl))) rfl rfl) rfl rfl T.z_sorted T.z_str rfl)) (Mp.BlkOk.of (by kernel_rfl)) (by decide) (fun s H C cl fp => (PgN (y.blk).nd rfl (.inl (by kernel_rfl)) (.inr (by kernel_rfl)))) (fun s H C cl fp => .nil) (fun s H C cl fp => (Sd.var (i := 11) rfl (.inl (by kernel_rfl)) rfl rfl)) (fun s H C cl fp => (Sd.idx (y.blk).u16 (Sd.var (i := 5) rfl (.inr (.inl (by kernel_rfl))) rfl rfl) (Sd.var (i := 11) rfl (.inl (by kernel_rfl)) rfl rfl) (fun _ _ => rfl)))) T.c_Program T.n_Program_own_lines) (Sts.cons y (St1.if_ (Sd.or_ (.cons (Sd.not_ (Sd.call (x := "is_word") ((m_is_word T).mono (by decide : 1 ≤ 5)) hr y.tk rfl T.g_is_word (.cons (Sd.var (i := 6) rfl (.inl (by kernel_rfl)) rfl rfl) rfl .nil) rfl rfl)) rfl (.cons (Sd.cmp (o := .nin) y.hu (Sd.var (i := 6) rfl (.inl (by kernel_rfl)) rfl rfl) (Sd.attr (c := "Program") (f := "lists") (Sd.var (i := 0) rfl (.inr (.inl (by kernel_rfl))) rfl rfl) T.c_Program T.n_Program_lists) rfl) rfl .nil)) rfl (List.cons_ne_nil _ _)) Sts.never Sts.nil) (Sts.cons y (St1.setA (cl := "Program") (f := "own_main") (Sd.var (i := 0) rfl (.inr (.inl (by kernel_rfl))) rfl rfl) (Sd.var (i := 6) rfl (.inl (by kernel_rfl)) rfl rfl) T.c_Program T.n_Program_own_main) (Sts.cons y (St1.setA (cl := "Program") (f := "own_guards") (Sd.var (i := 0) rfl (.inr (.inl (by kernel_rfl))) rfl rfl) (Sd.dct (k := false) y.u16 .nil) T.c_Program T.n_Program_own_guards) (Sts.cons y (St1.if_ (Sd.not_ (Sd.meth (cl := "Program") (mm := "are_guards") ((m_Program_are_guards T).mono (by decide : 1 ≤ 5)) hr y (Sd.var (i := 0) rfl (.inr (.inl (by kernel_rfl))) rfl rfl) T.c_Program T.me_Program_are_guards (.cons (Sd.ite (Sd.cmp (o := .is_) y.hu (Sd.var (i := 7) rfl (.inl (by kernel_rfl)) rfl rfl) Sd.non rfl) (Sd.dct (k := false) y.u16 .nil) (Sd.var (i := 7) rfl (.inl (by kernel_rfl)) rfl rfl)) rfl .nil) rfl rfl)) Sts.never Sts.nil) (Sts.cons y (St1.set (i := 12) y (Sd.ite (Sd.cmp (o := .is_) y.hu (Sd.var (i := 7) rfl (.inl (by kernel_rfl)) rfl rfl) Sd.non rfl) (Sd.dct (k := true) y.u16 .nil) (Sd.var (i := 7) rfl (.inl (by kernel_rfl)) rfl rfl)) rfl (.inr (by kernel_rfl))) (Sts.one (St1.setA (cl := "Program") (f := "own_guards") (Sd.var (i := 0) rfl (.inr (.inl (by kernel_rfl))) rfl rfl) (Sd.dc (own := [("spot", 13)]) (kk := true) y (Si.val y.u16 (Sd.meth0 (cl := "Program") (mm := "spots") ((m_Program_spots T).mono (by decide : 1 ≤ 5)) hr y (Sd.var (i := 0) rfl (.inr (.inl (by kernel_rfl))) rfl rfl) T.c_Program T.me_Program_spots)) (Mp.BlkOk.of (by kernel_rfl)) (by decide) (fun s H C cl fp => (PgN (y.blk).nd rfl (.inl (by kernel_rfl)) (.inr (by kernel_rfl)))) (fun s H C cl fp => .one (Sd.cmp (o := .in_) (y.blk).hu (Sd.var (i := 13) rfl (.inl (by kernel_rfl)) rfl rfl) (Sd.var (i := 12) rfl (.inr (.inl (by kernel_rfl))) rfl rfl) rfl)) (fun s H C cl fp => (Sd.var (i := 13) rfl (.inl (by kernel_rfl)) rfl rfl)) (fun s H C cl fp => (Sd.idx (y.blk).u16 (Sd.var (i := 12) rfl (.inr (.inl (by kernel_rfl))) rfl rfl) (Sd.var (i := 13) rfl (.inl (by kernel_rfl)) rfl rfl) (fun _ _ => rfl)))) T.c_Program T.n_Program_own_guards)))))))))))))))))))))))
theorem sc_Program_first_store : FnScope ["self", "section"] ["self"] (defScope (memS 29 14)) := ⟨rfl, rfl, rfl, by decide +kernel, rfl, by decide +kernel, by decide +kernel⟩
theorem m_Program_first_store (T : Tx P w K mg base ca fa pa) : FnM P w K mg base ca 1 (fa 16) 1 [] d_Program_first_store := by
  obtain ⟨fd, ds, F, B, Vd⟩ := T.f_Program_first_store
  exact FnM.of F sc_Program_first_store rfl rfl B Vd (fun _ => rfl) fun cdv A outer s H E hr y => (Sts.one (St1.ret (Sd.tup (.starV y.calm (Sd.attr (c := "Program") (f := "firsts") (Sd.var (i := 0) rfl (.inl (by kernel_rfl)) rfl rfl) T.c_Program T.n_Program_firsts) rfl rfl (.star (Sd.lc (own := [("section", 1)]) y (Si.val y.u16 (Sd.attr (c := "Program") (f := "own_sections") (Sd.var (i := 0) rfl (.inl (by kernel_rfl)) rfl rfl) T.c_Program T.n_Program_own_sections)) (Mp.BlkOk.of (by kernel_rfl)) (by decide) (fun s H C cl fp => (PgN (y.blk).nd rfl (.inl (by kernel_rfl)) (.inr (by kernel_rfl)))) (fun s H C cl fp => .nil) (fun s H C cl fp => Sd.int)) .nil)))))
theorem sc_check_program : FnScope ["program"] ["program"] (defScope (topS 30)) := ⟨rfl, rfl, rfl, by decide +kernel, rfl, by decide +kernel, by decide +kernel⟩
theorem m_check_program (T : Tx P w K mg base ca fa pa) : FnM P w K mg base ca 1 (fa 17) 1 [] d_check_program := by
  obtain ⟨fd, ds, F, B, Vd⟩ := T.f_check_program
  exact FnM.of F sc_check_program rfl rfl B Vd (fun _ => rfl) fun cdv A outer s H E hr y => (Sts.one (St1.if_ (Sd.not_ (Sd.isiC (k := "Program") (Sd.var (i := 0) rfl (.inl (by kernel_rfl)) rfl rfl) rfl T.z_isinstance bt_isinstance rfl T.g_Program T.i_Program)) Sts.never Sts.nil))
theorem sc_serving : FnScope ["program", "procedure", "point", "mask", "guard", "least", "found", "level", "line"] ["program", "procedure", "point", "mask"] (defScope (topS 32)) := ⟨rfl, rfl, rfl, by decide +kernel, rfl, by decide +kernel, by decide +kernel⟩
theorem m_serving (T : Tx P w K mg base ca fa pa) : FnM P w K mg base ca 3 (fa 18) 4 [] d_serving := by
  obtain ⟨fd, ds, F, B, Vd⟩ := T.f_serving
  exact FnM.of F sc_serving rfl rfl B Vd (fun _ => rfl) fun cdv A outer s H E hr y => (Sts.cons y (St1.set (i := 4) y (Sd.getD y.u16 (Sd.attr (c := "Program") (f := "own_guards") (Sd.var (i := 0) rfl (.inr (.inl (by kernel_rfl))) rfl rfl) T.c_Program T.n_Program_own_guards) (Sd.tup (.cons (Sd.var (i := 1) rfl (.inl (by kernel_rfl)) rfl rfl) rfl (.cons (Sd.var (i := 2) rfl (.inl (by kernel_rfl)) rfl rfl) rfl .nil))) Sd.int ⟨rfl, rfl, rfl, rfl⟩) rfl (.inl (by kernel_rfl))) (Sts.cons y (St1.set (i := 5) y (Sd.ite (Sd.cmp (o := .gt) y.hu (Sd.var (i := 3) rfl (.inl (by kernel_rfl)) rfl rfl) (Sd.var (i := 4) rfl (.inl (by kernel_rfl)) rfl rfl) rfl) (Sd.var (i := 3) rfl (.inl (by kernel_rfl)) rfl rfl) (Sd.var (i := 4) rfl (.inl (by kernel_rfl)) rfl rfl)) rfl (.inl (by kernel_rfl))) (Sts.cons y (St1.own (i := 6) (n := Dn.lst []) y (new_lst .nil) rfl (.inl (by kernel_rfl))) (Sts.cons y (St1.for_ (t := .name 7) y (Si.range3 (Sd.prop (pp := "levels") (cl := "Program") ((m_Program_levels T).mono (by decide : 1 ≤ 1)) hr (Sd.var (i := 0) rfl (.inr (.inl (by kernel_rfl))) rfl rfl) T.c_Program T.p_Program_levels) (Sd.var (i := 5) rfl (.inl (by kernel_rfl)) rfl rfl) (Sd.neg Sd.int) rfl T.z_range) (TgOk.n y rfl (.inr (by kernel_rfl)) (.inl (by kernel_rfl))) (Sts.one (St1.ext (i := 6) rfl (.inl (by kernel_rfl)) (Sd.lc (own := [("line", 8)]) y (Si.val y.u16 (Sd.attr (c := "Program") (f := "own_lines") (Sd.var (i := 0) rfl (.inr (.inl (by kernel_rfl))) rfl rfl) T.c_Program T.n_Program_own_lines)) (Mp.BlkOk.of (by kernel_rfl)) (by decide) (fun s H C cl fp => (PgN (y.blk).nd rfl (.inl (by kernel_rfl)) (.inr (by kernel_rfl)))) (fun s H C cl fp => .one (Sd.cmp (o := .eq) (y.blk).hu (Sd.idx (y.blk).u16 (Sd.idx (y.blk).u16 (Sd.attr (c := "Program") (f := "own_lines") (Sd.var (i := 0) rfl (.inr (.inl (by kernel_rfl))) rfl rfl) T.c_Program T.n_Program_own_lines) (Sd.var (i := 8) rfl (.inl (by kernel_rfl)) rfl rfl) (fun _ _ => rfl)) Sd.int (fun _ _ => rfl)) (Sd.var (i := 7) rfl (.inr (.inl (by kernel_rfl))) rfl rfl) rfl)) (fun s H C cl fp => (Sd.var (i := 8) rfl (.inl (by kernel_rfl)) rfl rfl)))))) (Sts.frz (i := 6) y (Sts.one (St1.ret (Sd.var (i := 6) rfl (.inl (by kernel_rfl)) rfl rfl))))))))
theorem sc_callee_at : FnScope ["program", "procedure", "point", "rows"] ["program", "procedure", "point"] (defScope (topS 33)) := ⟨rfl, rfl, rfl, by decide +kernel, rfl, by decide +kernel, by decide +kernel⟩
theorem m_callee_at (T : Tx P w K mg base ca fa pa) : FnM P w K mg base ca 1 (fa 19) 3 [] d_callee_at := by
  obtain ⟨fd, ds, F, B, Vd⟩ := T.f_callee_at
  exact FnM.of F sc_callee_at rfl rfl B Vd (fun _ => rfl) fun cdv A outer s H E hr y => (Sts.cons y (St1.set (i := 3) y (Sd.idx y.u16 (Sd.attr (c := "Program") (f := "lists") (Sd.var (i := 0) rfl (.inl (by kernel_rfl)) rfl rfl) T.c_Program T.n_Program_lists) (Sd.var (i := 1) rfl (.inl (by kernel_rfl)) rfl rfl) (fun _ _ => rfl)) rfl (.inl (by kernel_rfl))) (Sts.one (St1.ret (Sd.ite (Sd.and_ (.cons (Sd.cmp (o := .lt) y.hu (Sd.var (i := 2) rfl (.inl (by kernel_rfl)) rfl rfl) (Sd.biB (b := .len) cb_len (Sd.var (i := 3) rfl (.inl (by kernel_rfl)) rfl rfl) rfl T.z_len bt_len) rfl) rfl (.cons (Sd.cmp (o := .eq) y.hu (Sd.idx y.u16 (Sd.idx y.u16 (Sd.var (i := 3) rfl (.inl (by kernel_rfl)) rfl rfl) (Sd.var (i := 2) rfl (.inl (by kernel_rfl)) rfl rfl) (fun _ _ => rfl)) Sd.int (fun _ _ => rfl)) Sd.str rfl) rfl .nil)) rfl (List.cons_ne_nil _ _)) (Sd.idx y.u16 (Sd.idx y.u16 (Sd.var (i := 3) rfl (.inl (by kernel_rfl)) rfl rfl) (Sd.var (i := 2) rfl (.inl (by kernel_rfl)) rfl rfl) (fun _ _ => rfl)) Sd.int (fun _ _ => rfl)) Sd.non))))
theorem sc_at_cell : FnScope ["program", "cell"] ["program", "cell"] (defScope (topS 34)) := ⟨rfl, rfl, rfl, by decide +kernel, rfl, by decide +kernel, by decide +kernel⟩
theorem m_at_cell (T : Tx P w K mg base ca fa pa) : FnM P w K mg base ca 1 (fa 20) 2 [] d_at_cell := by
  obtain ⟨fd, ds, F, B, Vd⟩ := T.f_at_cell
  exact FnM.of F sc_at_cell rfl rfl B Vd (fun _ => rfl) fun cdv A outer s H E hr y => (Sts.one (St1.ret (Sd.index (Sd.biT (b := .list) (cb_list y.calm) (Sd.attr (c := "Program") (f := "firsts") (Sd.var (i := 0) rfl (.inl (by kernel_rfl)) rfl rfl) T.c_Program T.n_Program_firsts) rfl T.z_list bt_list) (Sd.var (i := 1) rfl (.inl (by kernel_rfl)) rfl rfl))))
theorem sc_put_in : FnScope ["store", "place", "value"] ["store", "place", "value"] (defScope (topS 36)) := ⟨rfl, rfl, rfl, by decide +kernel, rfl, by decide +kernel, by decide +kernel⟩
theorem m_put_in (T : Tx P w K mg base ca fa pa) : FnM P w K mg base ca 1 (fa 21) 3 [] d_put_in := by
  obtain ⟨fd, ds, F, B, Vd⟩ := T.f_put_in
  exact FnM.of F sc_put_in rfl rfl B Vd (fun _ => rfl) fun cdv A outer s H E hr y => (Sts.one (St1.ret (Sd.tup (.star (Sd.sli (Sd.var (i := 0) rfl (.inl (by kernel_rfl)) rfl rfl) .none (.some (Sd.var (i := 1) rfl (.inl (by kernel_rfl)) rfl rfl))) (.cons (Sd.var (i := 2) rfl (.inl (by kernel_rfl)) rfl rfl) rfl (.star (Sd.sli (Sd.var (i := 0) rfl (.inl (by kernel_rfl)) rfl rfl) (.some (Sd.bin (o := .add) (Sd.var (i := 1) rfl (.inl (by kernel_rfl)) rfl rfl) Sd.int)) .none) .nil))))))
theorem sc_changed_store : FnScope ["program", "row", "store", "word", "place", "value"] ["program", "row", "store"] (defScope (topS 37)) := ⟨rfl, rfl, rfl, by decide +kernel, rfl, by decide +kernel, by decide +kernel⟩
theorem m_changed_store (T : Tx P w K mg base ca fa pa) : FnM P w K mg base ca 3 (fa 22) 3 [] d_changed_store := by
  obtain ⟨fd, ds, F, B, Vd⟩ := T.f_changed_store
  exact FnM.of F sc_changed_store rfl rfl B Vd (fun _ => rfl) fun cdv A outer s H E hr y => (Sts.cons y (St1.set (i := 3) y (Sd.idx y.u16 (Sd.var (i := 1) rfl (.inl (by kernel_rfl)) rfl rfl) Sd.int (fun _ _ => rfl)) rfl (.inl (by kernel_rfl))) (Sts.cons y (St1.if_ (Sd.cmp (o := .in_) y.hu (Sd.var (i := 3) rfl (.inl (by kernel_rfl)) rfl rfl) (Sd.tup (.cons Sd.str rfl (.cons Sd.str rfl .nil))) rfl) Sts.never Sts.nil) (Sts.cons y (St1.set (i := 4) y (Sd.call (x := "at_cell") ((m_at_cell T).mono (by decide : 1 ≤ 2)) hr y.tk rfl T.g_at_cell (.cons (Sd.var (i := 0) rfl (.inl (by kernel_rfl)) rfl rfl) rfl (.cons (Sd.idx y.u16 (Sd.var (i := 1) rfl (.inl (by kernel_rfl)) rfl rfl) Sd.int (fun _ _ => rfl)) rfl .nil)) rfl rfl) rfl (.inr (by kernel_rfl))) (Sts.cons y (St1.if_ (Sd.cmp (o := .eq) y.hu (Sd.var (i := 3) rfl (.inl (by kernel_rfl)) rfl rfl) Sd.str rfl) (Sts.one (St1.ret (Sd.lc (own := [("value", 5)]) y (Si.range1 (Sd.prop (pp := "size") (cl := "Program") ((m_Program_size T).mono (by decide : 1 ≤ 1)) hr (Sd.var (i := 0) rfl (.inl (by kernel_rfl)) rfl rfl) T.c_Program T.p_Program_size) rfl T.z_range) (Mp.BlkOk.of (by kernel_rfl)) (by decide) (fun s H C cl fp => (PgN (y.blk).nd rfl (.inl (by kernel_rfl)) (.inr (by kernel_rfl)))) (fun s H C cl fp => .nil) (fun s H C cl fp => (Sd.tup (.cons (Sd.call (x := "put_in") ((m_put_in T).mono (by decide : 1 ≤ 2)) hr (y.blk).tk rfl T.g_put_in (.cons (Sd.var (i := 2) rfl (.inr (.inl (by kernel_rfl))) rfl rfl) rfl (.cons (Sd.var (i := 4) rfl (.inr (.inl (by kernel_rfl))) rfl rfl) rfl (.cons (Sd.var (i := 5) rfl (.inl (by kernel_rfl)) rfl rfl) rfl .nil))) rfl rfl) rfl (.cons (Sd.var (i := 5) rfl (.inl (by kernel_rfl)) rfl rfl) rfl .nil))))))) Sts.nil) (Sts.cons y St1.never (Sts.cons y St1.never (Sts.one (St1.ret (Sd.lst (.cons (Sd.tup (.cons (Sd.call (x := "put_in") ((m_put_in T).mono (by decide : 1 ≤ 2)) hr y.tk rfl T.g_put_in (.cons (Sd.var (i := 2) rfl (.inr (.inl (by kernel_rfl))) rfl rfl) rfl (.cons (Sd.var (i := 4) rfl (.inr (.inl (by kernel_rfl))) rfl rfl) rfl (.cons (Sd.var (i := 5) rfl (.inl (by kernel_rfl)) rfl rfl) rfl .nil))) rfl rfl) rfl (.cons Sd.int rfl .nil))) rfl .nil))))))))))
theorem sc_points_behind : FnScope ["program", "row", "point", "store", "word"] ["program", "row", "point", "store"] (defScope (topS 39)) := ⟨rfl, rfl, rfl, by decide +kernel, rfl, by decide +kernel, by decide +kernel⟩
theorem m_points_behind (T : Tx P w K mg base ca fa pa) : FnM P w K mg base ca 1 (fa 23) 4 [] d_points_behind := by
  obtain ⟨fd, ds, F, B, Vd⟩ := T.f_points_behind
  exact FnM.of F sc_points_behind rfl rfl B Vd (fun _ => rfl) fun cdv A outer s H E hr y => (Sts.cons y (St1.set (i := 4) y (Sd.idx y.u16 (Sd.var (i := 1) rfl (.inl (by kernel_rfl)) rfl rfl) Sd.int (fun _ _ => rfl)) rfl (.inl (by kernel_rfl))) (Sts.cons y (St1.if_ (Sd.cmp (o := .eq) y.hu (Sd.var (i := 4) rfl (.inl (by kernel_rfl)) rfl rfl) Sd.str rfl) (Sts.one (St1.ret (Sd.lst (.cons (Sd.tup (.cons (Sd.idx y.u16 (Sd.var (i := 1) rfl (.inl (by kernel_rfl)) rfl rfl) Sd.int (fun _ _ => rfl)) rfl (.cons Sd.int rfl .nil))) rfl .nil)))) Sts.nil) (Sts.cons y (St1.if_ (Sd.cmp (o := .eq) y.hu (Sd.var (i := 4) rfl (.inl (by kernel_rfl)) rfl rfl) Sd.str rfl) Sts.never Sts.nil) (Sts.cons y (St1.if_ (Sd.and_ (.cons (Sd.cmp (o := .eq) y.hu (Sd.var (i := 4) rfl (.inl (by kernel_rfl)) rfl rfl) Sd.str rfl) rfl (.cons Sd.bad' rfl .nil)) rfl (List.cons_ne_nil _ _)) Sts.never Sts.nil) (Sts.one (St1.ret (Sd.lst (.cons (Sd.tup (.cons (Sd.bin (o := .add) (Sd.var (i := 2) rfl (.inl (by kernel_rfl)) rfl rfl) Sd.int) rfl (.cons Sd.int rfl .nil))) rfl .nil))))))))
theorem sc_row_ways : FnScope ["program", "procedure", "point", "kept", "store", "mask", "floor", "row", "now", "keeping", "other", "choice"] ["program", "procedure", "point", "kept", "store", "mask", "floor"] (defScope (topS 40)) := ⟨rfl, rfl, rfl, by decide +kernel, rfl, by decide +kernel, by decide +kernel⟩
theorem m_row_ways (T : Tx P w K mg base ca fa pa) : FnM P w K mg base ca 4 (fa 24) 7 [] d_row_ways := by
  obtain ⟨fd, ds, F, B, Vd⟩ := T.f_row_ways
  exact FnM.of F sc_row_ways rfl rfl B Vd (fun _ => rfl) fun cdv A outer s H E hr y => (Sts.cons y (St1.set (i := 7) y (Sd.idx y.u16 (Sd.idx y.u16 (Sd.attr (c := "Program") (f := "lists") (Sd.var (i := 0) rfl (.inl (by kernel_rfl)) rfl rfl) T.c_Program T.n_Program_lists) (Sd.var (i := 1) rfl (.inl (by kernel_rfl)) rfl rfl) (fun _ _ => rfl)) (Sd.var (i := 2) rfl (.inr (.inl (by kernel_rfl))) rfl rfl) (fun _ _ => rfl)) rfl (.inl (by kernel_rfl))) (Sts.cons y (St1.if_ (Sd.cmp (o := .in_) y.hu (Sd.idx y.u16 (Sd.var (i := 7) rfl (.inl (by kernel_rfl)) rfl rfl) Sd.int (fun _ _ => rfl)) (Sd.tup (.cons Sd.str rfl (.cons Sd.str rfl (.cons Sd.str rfl (.cons Sd.str rfl (.cons Sd.str rfl .nil)))))) rfl) Sts.never Sts.nil) (Sts.cons y (St1.if_ (Sd.cmp (o := .eq) y.hu (Sd.idx y.u16 (Sd.var (i := 7) rfl (.inl (by kernel_rfl)) rfl rfl) Sd.int (fun _ _ => rfl)) Sd.str rfl) Sts.never Sts.nil) (Sts.cons y (St1.if_ (Sd.cmp (o := .in_) y.hu (Sd.idx y.u16 (Sd.var (i := 7) rfl (.inl (by kernel_rfl)) rfl rfl) Sd.int (fun _ _ => rfl)) (Sd.tup (.cons Sd.str rfl (.cons Sd.str rfl (.cons Sd.str rfl (.cons Sd.str rfl (.cons Sd.str rfl (.cons Sd.str rfl .nil))))))) rfl) (Sts.one (St1.ret (Sd.lc (own := [("other", 10), ("choice", 11)]) y (Si.val y.u16 (Sd.call (x := "changed_store") ((m_changed_store T).mono (by decide : 3 ≤ 3)) hr y.tk rfl T.g_changed_store (.cons (Sd.var (i := 0) rfl (.inl (by kernel_rfl)) rfl rfl) rfl (.cons (Sd.var (i := 7) rfl (.inl (by kernel_rfl)) rfl rfl) rfl (.cons (Sd.var (i := 4) rfl (.inr (.inl (by kernel_rfl))) rfl rfl) rfl .nil))) rfl rfl)) (Mp.BlkOk.of (by kernel_rfl)) (by decide) (fun s H C cl fp => (PgT (y.blk).calm (y.blk).nd (.cons rfl (.inl (by kernel_rfl)) (.inr (by kernel_rfl)) (.cons rfl (.inl (by kernel_rfl)) (.inr (by kernel_rfl)) .nil)))) (fun s H C cl fp => .nil) (fun s H C cl fp => (Sd.tup (.cons (Sd.bin (o := .add) (Sd.var (i := 2) rfl (.inr (.inl (by kernel_rfl))) rfl rfl) Sd.int) rfl (.cons (Sd.var (i := 3) rfl (.inr (.inl (by kernel_rfl))) rfl rfl) rfl (.cons (Sd.var (i := 10) rfl (.inl (by kernel_rfl)) rfl rfl) rfl (.cons (Sd.var (i := 5) rfl (.inr (.inl (by kernel_rfl))) rfl rfl) rfl (.cons (Sd.var (i := 11) rfl (.inl (by kernel_rfl)) rfl rfl) rfl .nil)))))))))) Sts.nil) (Sts.one (St1.ret (Sd.lc (own := [("other", 10), ("choice", 11)]) y (Si.val y.u16 (Sd.call (x := "points_behind") ((m_points_behind T).mono (by decide : 1 ≤ 3)) hr y.tk rfl T.g_points_behind (.cons (Sd.var (i := 0) rfl (.inl (by kernel_rfl)) rfl rfl) rfl (.cons (Sd.var (i := 7) rfl (.inl (by kernel_rfl)) rfl rfl) rfl (.cons (Sd.var (i := 2) rfl (.inr (.inl (by kernel_rfl))) rfl rfl) rfl (.cons (Sd.var (i := 4) rfl (.inr (.inl (by kernel_rfl))) rfl rfl) rfl .nil)))) rfl rfl)) (Mp.BlkOk.of (by kernel_rfl)) (by decide) (fun s H C cl fp => (PgT (y.blk).calm (y.blk).nd (.cons rfl (.inl (by kernel_rfl)) (.inr (by kernel_rfl)) (.cons rfl (.inl (by kernel_rfl)) (.inr (by kernel_rfl)) .nil)))) (fun s H C cl fp => .nil) (fun s H C cl fp => (Sd.tup (.cons (Sd.var (i := 10) rfl (.inl (by kernel_rfl)) rfl rfl) rfl (.cons (Sd.var (i := 3) rfl (.inr (.inl (by kernel_rfl))) rfl rfl) rfl (.cons (Sd.var (i := 4) rfl (.inr (.inl (by kernel_rfl))) rfl rfl) rfl (.cons (Sd.var (i := 5) rfl (.inr (.inl (by kernel_rfl))) rfl rfl) rfl (.cons (Sd.var (i := 11) rfl (.inl (by kernel_rfl)) rfl rfl) rfl .nil))))))))))))))
theorem sc_first_state : FnScope ["program"] ["program"] (defScope (topS 42)) := ⟨rfl, rfl, rfl, by decide +kernel, rfl, by decide +kernel, by decide +kernel⟩
theorem m_first_state (T : Tx P w K mg base ca fa pa) : FnM P w K mg base ca 3 (fa 25) 1 [] d_first_state := by
  obtain ⟨fd, ds, F, B, Vd⟩ := T.f_first_state
  exact FnM.of F sc_first_state rfl rfl B Vd (fun _ => rfl) fun cdv A outer s H E hr y => (Sts.one (St1.ret (Sd.tup (.cons (Sd.meth0 (cl := "Program") (mm := "first_store") ((m_Program_first_store T).mono (by decide : 1 ≤ 2)) hr y (Sd.var (i := 0) rfl (.inl (by kernel_rfl)) rfl rfl) T.c_Program T.me_Program_first_store) rfl (.cons Sd.int rfl (.cons (Sd.tup (.cons (Sd.tup (.cons Sd.int rfl (.cons Sd.int rfl (.cons (Sd.tup (.cons (Sd.tup (.cons (Sd.prop (pp := "main") (cl := "Program") ((m_Program_main T).mono (by decide : 1 ≤ 1)) hr (Sd.var (i := 0) rfl (.inl (by kernel_rfl)) rfl rfl) T.c_Program T.p_Program_main) rfl (.cons Sd.int rfl (.cons Sd.int rfl .nil)))) rfl .nil)) rfl .nil)))) rfl .nil)) rfl .nil))))))
theorem sc_place_in : FnScope ["state", "store", "mask", "piles", "floor", "below", "frames"] ["state"] (defScope (topS 43)) := ⟨rfl, rfl, rfl, by decide +kernel, rfl, by decide +kernel, by decide +kernel⟩
theorem m_place_in (T : Tx P w K mg base ca fa pa) : FnM P w K mg base ca 1 (fa 26) 1 [] d_place_in := by
  obtain ⟨fd, ds, F, B, Vd⟩ := T.f_place_in
  exact FnM.of F sc_place_in rfl rfl B Vd (fun _ => rfl) fun cdv A outer s H E hr y => (Sts.cons y (St1.asg (t := .names [1, 2, 3]) (Sd.var (i := 0) rfl (.inl (by kernel_rfl)) rfl rfl) (TgOk.t y (.cons rfl (.inl (by kernel_rfl)) (.inr (by kernel_rfl)) (.cons rfl (.inl (by kernel_rfl)) (.inr (by kernel_rfl)) (.cons rfl (.inl (by kernel_rfl)) (.inr (by kernel_rfl)) .nil))))) (Sts.cons y (St1.asg (t := .names [4, 5, 6]) (Sd.idx y.u16 (Sd.var (i := 3) rfl (.inl (by kernel_rfl)) rfl rfl) (Sd.neg Sd.int) (fun _ _ => rfl)) (TgOk.t y (.cons rfl (.inl (by kernel_rfl)) (.inr (by kernel_rfl)) (.cons rfl (.inl (by kernel_rfl)) (.inr (by kernel_rfl)) (.cons rfl (.inl (by kernel_rfl)) (.inr (by kernel_rfl)) .nil))))) (Sts.one (St1.ret (Sd.tup (.star (Sd.idx y.u16 (Sd.var (i := 6) rfl (.inl (by kernel_rfl)) rfl rfl) (Sd.neg Sd.int) (fun _ _ => rfl)) (.cons (Sd.var (i := 1) rfl (.inl (by kernel_rfl)) rfl rfl) rfl (.cons (Sd.var (i := 2) rfl (.inl (by kernel_rfl)) rfl rfl) rfl (.cons (Sd.var (i := 4) rfl (.inl (by kernel_rfl)) rfl rfl) rfl .nil)))))))))
theorem sc_frames_in : FnScope ["state", "floor", "below", "frames", "frame"] ["state"] (defScope (topS 44)) := ⟨rfl, rfl, rfl, by decide +kernel, rfl, by decide +kernel, by decide +kernel⟩
theorem m_frames_in (T : Tx P w K mg base ca fa pa) : FnM P w K mg base ca 1 (fa 27) 1 [] d_frames_in := by
  obtain ⟨fd, ds, F, B, Vd⟩ := T.f_frames_in
  exact FnM.of F sc_frames_in rfl rfl B Vd (fun _ => rfl) fun cdv A outer s H E hr y => (Sts.one (St1.ret (Sd.lc2 (own := [("floor", 1), ("below", 2), ("frames", 3), ("frame", 4)]) y (Si.val y.u16 (Sd.idx y.u16 (Sd.var (i := 0) rfl (.inl (by kernel_rfl)) rfl rfl) Sd.int (fun _ _ => rfl))) (Mp.BlkOk.of (by kernel_rfl)) (by decide) (by decide) (by decide) (fun s H C cl fp => (PgT (y.blk).calm (y.blk).nd (.cons rfl (.inl (by kernel_rfl)) (.inr (by kernel_rfl)) (.cons rfl (.inl (by kernel_rfl)) (.inr (by kernel_rfl)) (.cons rfl (.inl (by kernel_rfl)) (.inr (by kernel_rfl)) .nil))))) (fun s H C cl fp => (Si.val (y.blk).u16 (Sd.var (i := 3) rfl (.inl (by kernel_rfl)) rfl rfl))) (fun s H C cl fp => (PgN (y.blk).nd rfl (.inl (by kernel_rfl)) (.inr (by kernel_rfl)))) (fun s H C cl fp => (Sd.var (i := 4) rfl (.inl (by kernel_rfl)) rfl rfl)))))
theorem sc_is_resting : FnScope ["program", "state", "procedure", "point", "kept"] ["program", "state"] (defScope (topS 45)) := ⟨rfl, rfl, rfl, by decide +kernel, rfl, by decide +kernel, by decide +kernel⟩
theorem m_is_resting (T : Tx P w K mg base ca fa pa) : FnM P w K mg base ca 2 (fa 28) 2 [] d_is_resting := by
  obtain ⟨fd, ds, F, B, Vd⟩ := T.f_is_resting
  exact FnM.of F sc_is_resting rfl rfl B Vd (fun _ => rfl) fun cdv A outer s H E hr y => (Sts.cons y (St1.asg (t := .names [2, 3, 4]) (Sd.idx y.u16 (Sd.idx y.u16 (Sd.idx y.u16 (Sd.idx y.u16 (Sd.var (i := 1) rfl (.inl (by kernel_rfl)) rfl rfl) Sd.int (fun _ _ => rfl)) (Sd.neg Sd.int) (fun _ _ => rfl)) Sd.int (fun _ _ => rfl)) (Sd.neg Sd.int) (fun _ _ => rfl)) (TgOk.t y (.cons rfl (.inl (by kernel_rfl)) (.inr (by kernel_rfl)) (.cons rfl (.inl (by kernel_rfl)) (.inr (by kernel_rfl)) (.cons rfl (.inl (by kernel_rfl)) (.inr (by kernel_rfl)) .nil))))) (Sts.one (St1.ret (Sd.and_ (.cons (Sd.cmp (o := .eq) y.hu (Sd.biB (b := .len) cb_len (Sd.call (x := "frames_in") ((m_frames_in T).mono (by decide : 1 ≤ 1)) hr y.tk rfl T.g_frames_in (.cons (Sd.var (i := 1) rfl (.inl (by kernel_rfl)) rfl rfl) rfl .nil) rfl rfl) rfl T.z_len bt_len) Sd.int rfl) rfl (.cons (Sd.cmp (o := .eq) y.hu (Sd.var (i := 3) rfl (.inl (by kernel_rfl)) rfl rfl) (Sd.biB (b := .len) cb_len (Sd.idx y.u16 (Sd.attr (c := "Program") (f := "lists") (Sd.var (i := 0) rfl (.inl (by kernel_rfl)) rfl rfl) T.c_Program T.n_Program_lists) (Sd.var (i := 2) rfl (.inl (by kernel_rfl)) rfl rfl) (fun _ _ => rfl)) rfl T.z_len bt_len) rfl) rfl .nil)) rfl (List.cons_ne_nil _ _)))))
theorem sc_begin_line : FnScope ["program", "state", "line", "store", "mask", "piles", "level", "procedure"] ["program", "state", "line"] (defScope (topS 46)) := ⟨rfl, rfl, rfl, by decide +kernel, rfl, by decide +kernel, by decide +kernel⟩
theorem m_begin_line (T : Tx P w K mg base ca fa pa) : FnM P w K mg base ca 1 (fa 29) 3 [] d_begin_line := by
  obtain ⟨fd, ds, F, B, Vd⟩ := T.f_begin_line
  exact FnM.of F sc_begin_line rfl rfl B Vd (fun _ => rfl) fun cdv A outer s H E hr y => (Sts.cons y (St1.asg (t := .names [3, 4, 5]) (Sd.var (i := 1) rfl (.inl (by kernel_rfl)) rfl rfl) (TgOk.t y (.cons rfl (.inl (by kernel_rfl)) (.inr (by kernel_rfl)) (.cons rfl (.inl (by kernel_rfl)) (.inr (by kernel_rfl)) (.cons rfl (.inl (by kernel_rfl)) (.inr (by kernel_rfl)) .nil))))) (Sts.cons y (St1.asg (t := .names [6, 7]) (Sd.idx y.u16 (Sd.attr (c := "Program") (f := "own_lines") (Sd.var (i := 0) rfl (.inl (by kernel_rfl)) rfl rfl) T.c_Program T.n_Program_own_lines) (Sd.var (i := 2) rfl (.inl (by kernel_rfl)) rfl rfl) (fun _ _ => rfl)) (TgOk.t y (.cons rfl (.inl (by kernel_rfl)) (.inr (by kernel_rfl)) (.cons rfl (.inl (by kernel_rfl)) (.inr (by kernel_rfl)) .nil)))) (Sts.one (St1.ret (Sd.tup (.cons (Sd.var (i := 3) rfl (.inl (by kernel_rfl)) rfl rfl) rfl (.cons (Sd.var (i := 6) rfl (.inl (by kernel_rfl)) rfl rfl) rfl (.cons (Sd.tup (.star (Sd.var (i := 5) rfl (.inl (by kernel_rfl)) rfl rfl) (.cons (Sd.tup (.cons (Sd.var (i := 6) rfl (.inl (by kernel_rfl)) rfl rfl) rfl (.cons (Sd.var (i := 4) rfl (.inl (by kernel_rfl)) rfl rfl) rfl (.cons (Sd.tup (.cons (Sd.tup (.cons (Sd.var (i := 7) rfl (.inl (by kernel_rfl)) rfl rfl) rfl (.cons Sd.int rfl (.cons Sd.int rfl .nil)))) rfl .nil)) rfl .nil)))) rfl .nil))) rfl .nil))))))))
theorem sc_come_back : FnScope ["state", "store", "mask", "piles", "floor", "below", "frames"] ["state"] (defScope (topS 47)) := ⟨rfl, rfl, rfl, by decide +kernel, rfl, by decide +kernel, by decide +kernel⟩
theorem m_come_back (T : Tx P w K mg base ca fa pa) : FnM P w K mg base ca 1 (fa 30) 1 [] d_come_back := by
  obtain ⟨fd, ds, F, B, Vd⟩ := T.f_come_back
  exact FnM.of F sc_come_back rfl rfl B Vd (fun _ => rfl) fun cdv A outer s H E hr y => (Sts.cons y (St1.asg (t := .names [1, 2, 3]) (Sd.var (i := 0) rfl (.inl (by kernel_rfl)) rfl rfl) (TgOk.t y (.cons rfl (.inl (by kernel_rfl)) (.inr (by kernel_rfl)) (.cons rfl (.inl (by kernel_rfl)) (.inr (by kernel_rfl)) (.cons rfl (.inl (by kernel_rfl)) (.inr (by kernel_rfl)) .nil))))) (Sts.cons y (St1.asg (t := .names [4, 5, 6]) (Sd.idx y.u16 (Sd.var (i := 3) rfl (.inl (by kernel_rfl)) rfl rfl) (Sd.neg Sd.int) (fun _ _ => rfl)) (TgOk.t y (.cons rfl (.inl (by kernel_rfl)) (.inr (by kernel_rfl)) (.cons rfl (.inl (by kernel_rfl)) (.inr (by kernel_rfl)) (.cons rfl (.inl (by kernel_rfl)) (.inr (by kernel_rfl)) .nil))))) (Sts.cons y (St1.if_ (Sd.cmp (o := .gt) y.hu (Sd.biB (b := .len) cb_len (Sd.var (i := 6) rfl (.inl (by kernel_rfl)) rfl rfl) rfl T.z_len bt_len) Sd.int rfl) Sts.never Sts.nil) (Sts.one (St1.ret (Sd.tup (.cons (Sd.var (i := 1) rfl (.inl (by kernel_rfl)) rfl rfl) rfl (.cons (Sd.var (i := 5) rfl (.inl (by kernel_rfl)) rfl rfl) rfl (.cons (Sd.sli (Sd.var (i := 3) rfl (.inl (by kernel_rfl)) rfl rfl) .none (.some (Sd.neg Sd.int))) rfl .nil)))))))))
theorem sc_with_frames : FnScope ["state", "store", "mask", "frames", "piles", "floor", "below", "old"] ["state", "store", "mask", "frames"] (defScope (topS 48)) := ⟨rfl, rfl, rfl, by decide +kernel, rfl, by decide +kernel, by decide +kernel⟩
theorem m_with_frames (T : Tx P w K mg base ca fa pa) : FnM P w K mg base ca 1 (fa 31) 4 [] d_with_frames := by
  obtain ⟨fd, ds, F, B, Vd⟩ := T.f_with_frames
  exact FnM.of F sc_with_frames rfl rfl B Vd (fun _ => rfl) fun cdv A outer s H E hr y => (Sts.cons y (St1.set (i := 4) y (Sd.idx y.u16 (Sd.var (i := 0) rfl (.inl (by kernel_rfl)) rfl rfl) Sd.int (fun _ _ => rfl)) rfl (.inl (by kernel_rfl))) (Sts.cons y (St1.asg (t := .names [5, 6, 7]) (Sd.idx y.u16 (Sd.var (i := 4) rfl (.inl (by kernel_rfl)) rfl rfl) (Sd.neg Sd.int) (fun _ _ => rfl)) (TgOk.t y (.cons rfl (.inl (by kernel_rfl)) (.inr (by kernel_rfl)) (.cons rfl (.inl (by kernel_rfl)) (.inr (by kernel_rfl)) (.cons rfl (.inl (by kernel_rfl)) (.inr (by kernel_rfl)) .nil))))) (Sts.one (St1.ret (Sd.tup (.cons (Sd.var (i := 1) rfl (.inl (by kernel_rfl)) rfl rfl) rfl (.cons (Sd.var (i := 2) rfl (.inl (by kernel_rfl)) rfl rfl) rfl (.cons (Sd.tup (.star (Sd.sli (Sd.var (i := 4) rfl (.inl (by kernel_rfl)) rfl rfl) .none (.some (Sd.neg Sd.int))) (.cons (Sd.tup (.cons (Sd.var (i := 5) rfl (.inl (by kernel_rfl)) rfl rfl) rfl (.cons (Sd.var (i := 6) rfl (.inl (by kernel_rfl)) rfl rfl) rfl (.cons (Sd.var (i := 3) rfl (.inl (by kernel_rfl)) rfl rfl) rfl .nil)))) rfl .nil))) rfl .nil))))))))
theorem sc_rows_behind : FnScope ["program", "state", "procedure", "point", "kept", "store", "mask", "floor", "frames", "called", "inner", "found", "later", "keeping", "left", "new", "choice"] ["program", "state"] (defScope (topS 49)) := ⟨rfl, rfl, rfl, by decide +kernel, rfl, by decide +kernel, by decide +kernel⟩
theorem m_rows_behind (T : Tx P w K mg base ca fa pa) : FnM P w K mg base ca 5 (fa 32) 2 [] d_rows_behind := by
  obtain ⟨fd, ds, F, B, Vd⟩ := T.f_rows_behind
  exact FnM.of F sc_rows_behind rfl rfl B Vd (fun _ => rfl) fun cdv A outer s H E hr y => (Sts.cons y (St1.asg (t := .names [2, 3, 4, 5, 6, 7]) (Sd.call (x := "place_in") ((m_place_in T).mono (by decide : 1 ≤ 4)) hr y.tk rfl T.g_place_in (.cons (Sd.var (i := 1) rfl (.inl (by kernel_rfl)) rfl rfl) rfl .nil) rfl rfl) (TgOk.t y (.cons rfl (.inl (by kernel_rfl)) (.inr (by kernel_rfl)) (.cons rfl (.inl (by kernel_rfl)) (.inr (by kernel_rfl)) (.cons rfl (.inl (by kernel_rfl)) (.inr (by kernel_rfl)) (.cons rfl (.inl (by kernel_rfl)) (.inr (by kernel_rfl)) (.cons rfl (.inl (by kernel_rfl)) (.inr (by kernel_rfl)) (.cons rfl (.inl (by kernel_rfl)) (.inr (by kernel_rfl)) .nil)))))))) (Sts.cons y (St1.set (i := 8) y (Sd.idx y.u16 (Sd.idx y.u16 (Sd.idx y.u16 (Sd.var (i := 1) rfl (.inl (by kernel_rfl)) rfl rfl) Sd.int (fun _ _ => rfl)) (Sd.neg Sd.int) (fun _ _ => rfl)) Sd.int (fun _ _ => rfl)) rfl (.inl (by kernel_rfl))) (Sts.cons y (St1.if_ (Sd.cmp (o := .eq) y.hu (Sd.var (i := 3) rfl (.inl (by kernel_rfl)) rfl rfl) (Sd.biB (b := .len) cb_len (Sd.idx y.u16 (Sd.attr (c := "Program") (f := "lists") (Sd.var (i := 0) rfl (.inl (by kernel_rfl)) rfl rfl) T.c_Program T.n_Program_lists) (Sd.var (i := 2) rfl (.inl (by kernel_rfl)) rfl rfl) (fun _ _ => rfl)) rfl T.z_len bt_len) rfl) (Sts.one (St1.ret (Sd.lst (.cons (Sd.tup (.cons Sd.int rfl (.cons (Sd.call (x := "come_back") ((m_come_back T).mono (by decide : 1 ≤ 4)) hr y.tk rfl T.g_come_back (.cons (Sd.var (i := 1) rfl (.inl (by kernel_rfl)) rfl rfl) rfl .nil) rfl rfl) rfl .nil))) rfl .nil)))) Sts.nil) (Sts.cons y (St1.set (i := 9) y (Sd.call (x := "callee_at") ((m_callee_at T).mono (by decide : 1 ≤ 4)) hr y.tk rfl T.g_callee_at (.cons (Sd.var (i := 0) rfl (.inl (by kernel_rfl)) rfl rfl) rfl (.cons (Sd.var (i := 2) rfl (.inl (by kernel_rfl)) rfl rfl) rfl (.cons (Sd.var (i := 3) rfl (.inl (by kernel_rfl)) rfl rfl) rfl .nil))) rfl rfl) rfl (.inl (by kernel_rfl))) (Sts.cons y (St1.if_ (Sd.cmp (o := .isn) y.hu (Sd.var (i := 9) rfl (.inl (by kernel_rfl)) rfl rfl) Sd.non rfl) Sts.never Sts.nil) (Sts.cons y (St1.own (i := 11) (n := Dn.lst []) y (new_lst .nil) rfl (.inl (by kernel_rfl))) (Sts.cons y (St1.for_ (t := .names [12, 13, 14, 15, 16]) y (Si.val y.u16 (Sd.call (x := "row_ways") ((m_row_ways T).mono (by decide : 4 ≤ 4)) hr y.tk rfl T.g_row_ways (.cons (Sd.var (i := 0) rfl (.inl (by kernel_rfl)) rfl rfl) rfl (.cons (Sd.var (i := 2) rfl (.inl (by kernel_rfl)) rfl rfl) rfl (.cons (Sd.var (i := 3) rfl (.inl (by kernel_rfl)) rfl rfl) rfl (.cons (Sd.var (i := 4) rfl (.inl (by kernel_rfl)) rfl rfl) rfl (.cons (Sd.var (i := 5) rfl (.inl (by kernel_rfl)) rfl rfl) rfl (.cons (Sd.var (i := 6) rfl (.inl (by kernel_rfl)) rfl rfl) rfl (.cons (Sd.var (i := 7) rfl (.inl (by kernel_rfl)) rfl rfl) rfl .nil))))))) rfl rfl)) (TgOk.t y (.cons rfl (.inl (by kernel_rfl)) (.inr (by kernel_rfl)) (.cons rfl (.inl (by kernel_rfl)) (.inr (by kernel_rfl)) (.cons rfl (.inl (by kernel_rfl)) (.inr (by kernel_rfl)) (.cons rfl (.inl (by kernel_rfl)) (.inr (by kernel_rfl)) (.cons rfl (.inl (by kernel_rfl)) (.inr (by kernel_rfl)) .nil)))))) (Sts.one (St1.app (i := 11) rfl (.inl (by kernel_rfl)) (Sd.tup (.cons (Sd.var (i := 16) rfl (.inl (by kernel_rfl)) rfl rfl) rfl (.cons (Sd.call (x := "with_frames") ((m_with_frames T).mono (by decide : 1 ≤ 4)) hr y.tk rfl T.g_with_frames (.cons (Sd.var (i := 1) rfl (.inl (by kernel_rfl)) rfl rfl) rfl (.cons (Sd.var (i := 14) rfl (.inl (by kernel_rfl)) rfl rfl) rfl (.cons (Sd.var (i := 15) rfl (.inl (by kernel_rfl)) rfl rfl) rfl (.cons (Sd.tup (.star (Sd.sli (Sd.var (i := 8) rfl (.inl (by kernel_rfl)) rfl rfl) .none (.some (Sd.neg Sd.int))) (.cons (Sd.tup (.cons (Sd.var (i := 2) rfl (.inl (by kernel_rfl)) rfl rfl) rfl (.cons (Sd.var (i := 12) rfl (.inl (by kernel_rfl)) rfl rfl) rfl (.cons (Sd.var (i := 13) rfl (.inl (by kernel_rfl)) rfl rfl) rfl .nil)))) rfl .nil))) rfl .nil)))) rfl rfl) rfl .nil)))))) (Sts.frz (i := 11) y (Sts.one (St1.ret (Sd.var (i := 11) rfl (.inl (by kernel_rfl)) rfl rfl)))))))))))
theorem sc_all_moves : FnScope ["program", "state", "procedure", "point", "kept", "store", "mask", "floor", "found", "line", "choice", "later"] ["program", "state"] (defScope (topS 50)) := ⟨rfl, rfl, rfl, by decide +kernel, rfl, by decide +kernel, by decide +kernel⟩
theorem m_all_moves (T : Tx P w K mg base ca fa pa) : FnM P w K mg base ca 6 (fa 33) 2 [] d_all_moves := by
  obtain ⟨fd, ds, F, B, Vd⟩ := T.f_all_moves
  exact FnM.of F sc_all_moves rfl rfl B Vd (fun _ => rfl) fun cdv A outer s H E hr y => (Sts.cons y (St1.asg (t := .names [2, 3, 4, 5, 6, 7]) (Sd.call (x := "place_in") ((m_place_in T).mono (by decide : 1 ≤ 5)) hr y.tk rfl T.g_place_in (.cons (Sd.var (i := 1) rfl (.inr (.inl (by kernel_rfl))) rfl rfl) rfl .nil) rfl rfl) (TgOk.t y (.cons rfl (.inl (by kernel_rfl)) (.inr (by kernel_rfl)) (.cons rfl (.inl (by kernel_rfl)) (.inr (by kernel_rfl)) (.cons rfl (.inl (by kernel_rfl)) (.inr (by kernel_rfl)) (.cons rfl (.inl (by kernel_rfl)) (.inr (by kernel_rfl)) (.cons rfl (.inl (by kernel_rfl)) (.inr (by kernel_rfl)) (.cons rfl (.inl (by kernel_rfl)) (.inr (by kernel_rfl)) .nil)))))))) (Sts.cons y (St1.setLc (i := 8) (own := [("line", 9)]) y rfl (by kernel_rfl) (by kernel_rfl) (Si.val y.u16 (Sd.call (x := "serving") ((m_serving T).mono (by decide : 3 ≤ 5)) hr y.tk rfl T.g_serving (.cons (Sd.var (i := 0) rfl (.inr (.inl (by kernel_rfl))) rfl rfl) rfl (.cons (Sd.var (i := 2) rfl (.inl (by kernel_rfl)) rfl rfl) rfl (.cons (Sd.var (i := 3) rfl (.inl (by kernel_rfl)) rfl rfl) rfl (.cons (Sd.var (i := 6) rfl (.inl (by kernel_rfl)) rfl rfl) rfl .nil)))) rfl rfl)) (Mp.BlkOk.of (by kernel_rfl)) (by decide) (fun s H C cl fp => (PgN (y.blk).nd rfl (.inl (by kernel_rfl)) (.inr (by kernel_rfl)))) (fun s H C cl fp => .nil) (fun s H C cl fp => (Sd.tup (.cons (Sd.tup (.cons Sd.str rfl (.cons (Sd.var (i := 9) rfl (.inl (by kernel_rfl)) rfl rfl) rfl .nil))) rfl (.cons (Sd.call (x := "begin_line") ((m_begin_line T).mono (by decide : 1 ≤ 5)) hr (y.blk).tk rfl T.g_begin_line (.cons (Sd.var (i := 0) rfl (.inr (.inl (by kernel_rfl))) rfl rfl) rfl (.cons (Sd.var (i := 1) rfl (.inr (.inl (by kernel_rfl))) rfl rfl) rfl (.cons (Sd.var (i := 9) rfl (.inl (by kernel_rfl)) rfl rfl) rfl .nil))) rfl rfl) rfl .nil))))) (Sts.cons y (St1.if_ (Sd.call (x := "is_resting") ((m_is_resting T).mono (by decide : 2 ≤ 5)) hr y.tk rfl T.g_is_resting (.cons (Sd.var (i := 0) rfl (.inr (.inl (by kernel_rfl))) rfl rfl) rfl (.cons (Sd.var (i := 1) rfl (.inr (.inl (by kernel_rfl))) rfl rfl) rfl .nil)) rfl rfl) (Sts.one (St1.ret (Sd.var (i := 8) rfl (.inl (by kernel_rfl)) rfl rfl))) Sts.nil) (Sts.one (St1.ret (Sd.bin (o := .add) (Sd.var (i := 8) rfl (.inl (by kernel_rfl)) rfl rfl) (Sd.lc (own := [("choice", 10), ("later", 11)]) y (Si.val y.u16 (Sd.call (x := "rows_behind") ((m_rows_behind T).mono (by decide : 5 ≤ 5)) hr y.tk rfl T.g_rows_behind (.cons (Sd.var (i := 0) rfl (.inr (.inl (by kernel_rfl))) rfl rfl) rfl (.cons (Sd.var (i := 1) rfl (.inr (.inl (by kernel_rfl))) rfl rfl) rfl .nil)) rfl rfl)) (Mp.BlkOk.of (by kernel_rfl)) (by decide) (fun s H C cl fp => (PgT (y.blk).calm (y.blk).nd (.cons rfl (.inl (by kernel_rfl)) (.inr (by kernel_rfl)) (.cons rfl (.inl (by kernel_rfl)) (.inr (by kernel_rfl)) .nil)))) (fun s H C cl fp => .nil) (fun s H C cl fp => (Sd.tup (.cons (Sd.tup (.cons Sd.str rfl (.cons (Sd.var (i := 10) rfl (.inl (by kernel_rfl)) rfl rfl) rfl .nil))) rfl (.cons (Sd.var (i := 11) rfl (.inl (by kernel_rfl)) rfl rfl) rfl .nil)))))))))))
theorem sc_state_behind : FnScope ["program", "state", "move", "made", "later"] ["program", "state", "move"] (defScope (topS 51)) := ⟨rfl, rfl, rfl, by decide +kernel, rfl, by decide +kernel, by decide +kernel⟩
theorem m_state_behind (T : Tx P w K mg base ca fa pa) : FnM P w K mg base ca 7 (fa 34) 3 [] d_state_behind := by
  obtain ⟨fd, ds, F, B, Vd⟩ := T.f_state_behind
  exact FnM.of F sc_state_behind rfl rfl B Vd (fun _ => rfl) fun cdv A outer s H E hr y => (Sts.cons y (St1.for_ (t := .names [3, 4]) y (Si.val y.u16 (Sd.call (x := "all_moves") ((m_all_moves T).mono (by decide : 6 ≤ 6)) hr y.tk rfl T.g_all_moves (.cons (Sd.var (i := 0) rfl (.inl (by kernel_rfl)) rfl rfl) rfl (.cons (Sd.var (i := 1) rfl (.inl (by kernel_rfl)) rfl rfl) rfl .nil)) rfl rfl)) (TgOk.t y (.cons rfl (.inl (by kernel_rfl)) (.inr (by kernel_rfl)) (.cons rfl (.inl (by kernel_rfl)) (.inr (by kernel_rfl)) .nil))) (Sts.one (St1.if_ (Sd.cmp (o := .eq) y.hu (Sd.var (i := 3) rfl (.inl (by kernel_rfl)) rfl rfl) (Sd.var (i := 2) rfl (.inl (by kernel_rfl)) rfl rfl) rfl) (Sts.one (St1.ret (Sd.var (i := 4) rfl (.inl (by kernel_rfl)) rfl rfl))) Sts.nil))) (Sts.one (St1.ret Sd.non)))
theorem sc_is_move : FnScope ["value"] ["value"] (defScope (topS 53)) := ⟨rfl, rfl, rfl, by decide +kernel, rfl, by decide +kernel, by decide +kernel⟩
theorem m_is_move (T : Tx P w K mg base ca fa pa) : FnM P w K mg base ca 2 (fa 35) 1 [] d_is_move := by
  obtain ⟨fd, ds, F, B, Vd⟩ := T.f_is_move
  exact FnM.of F sc_is_move rfl rfl B Vd (fun _ => rfl) fun cdv A outer s H E hr y => (Sts.cons y (St1.if_ (Sd.or_ (.cons (Sd.not_ (Sd.isi (t := .tuple) (Sd.var (i := 0) rfl (.inl (by kernel_rfl)) rfl rfl) rfl T.z_isinstance bt_isinstance rfl T.z_tuple bt_tuple)) rfl (.cons (Sd.cmp (o := .ne) y.hu (Sd.biB (b := .len) cb_len (Sd.var (i := 0) rfl (.inl (by kernel_rfl)) rfl rfl) rfl T.z_len bt_len) Sd.int rfl) rfl (.cons (Sd.not_ (Sd.isi (t := .str) (Sd.idx y.u16 (Sd.var (i := 0) rfl (.inl (by kernel_rfl)) rfl rfl) Sd.int (fun _ _ => rfl)) rfl T.z_isinstance bt_isinstance rfl T.z_str bt_str)) rfl .nil))) rfl (List.cons_ne_nil _ _)) (Sts.one (St1.ret Sd.bl)) Sts.nil) (Sts.one (St1.ret (Sd.or_ (.cons (Sd.and_ (.cons (Sd.cmp (o := .eq) y.hu (Sd.idx y.u16 (Sd.var (i := 0) rfl (.inl (by kernel_rfl)) rfl rfl) Sd.int (fun _ _ => rfl)) Sd.str rfl) rfl (.cons (Sd.call (x := "is_word") ((m_is_word T).mono (by decide : 1 ≤ 1)) hr y.tk rfl T.g_is_word (.cons (Sd.idx y.u16 (Sd.var (i := 0) rfl (.inl (by kernel_rfl)) rfl rfl) Sd.int (fun _ _ => rfl)) rfl .nil) rfl rfl) rfl .nil)) rfl (List.cons_ne_nil _ _)) rfl (.cons (Sd.and_ (.cons (Sd.cmp (o := .eq) y.hu (Sd.idx y.u16 (Sd.var (i := 0) rfl (.inl (by kernel_rfl)) rfl rfl) Sd.int (fun _ _ => rfl)) Sd.str rfl) rfl (.cons (Sd.call (x := "is_integer") ((m_is_integer T).mono (by decide : 1 ≤ 1)) hr y.tk rfl T.g_is_integer (.cons (Sd.idx y.u16 (Sd.var (i := 0) rfl (.inl (by kernel_rfl)) rfl rfl) Sd.int (fun _ _ => rfl)) rfl .nil) rfl rfl) rfl .nil)) rfl (List.cons_ne_nil _ _)) rfl .nil)) rfl (List.cons_ne_nil _ _)))))
theorem sc_after_move : FnScope ["program", "state", "move"] ["program", "state", "move"] (defScope (topS 54)) := ⟨rfl, rfl, rfl, by decide +kernel, rfl, by decide +kernel, by decide +kernel⟩
theorem m_after_move (T : Tx P w K mg base ca fa pa) : FnM P w K mg base ca 8 (fa 36) 3 [] d_after_move := by
  obtain ⟨fd, ds, F, B, Vd⟩ := T.f_after_move
  exact FnM.of F sc_after_move rfl rfl B Vd (fun _ => rfl) fun cdv A outer s H E hr y => (Sts.one (St1.ret (Sd.ite (Sd.call (x := "is_move") ((m_is_move T).mono (by decide : 2 ≤ 7)) hr y.tk rfl T.g_is_move (.cons (Sd.var (i := 2) rfl (.inl (by kernel_rfl)) rfl rfl) rfl .nil) rfl rfl) (Sd.call (x := "state_behind") ((m_state_behind T).mono (by decide : 7 ≤ 7)) hr y.tk rfl T.g_state_behind (.cons (Sd.var (i := 0) rfl (.inl (by kernel_rfl)) rfl rfl) rfl (.cons (Sd.var (i := 1) rfl (.inl (by kernel_rfl)) rfl rfl) rfl (.cons (Sd.var (i := 2) rfl (.inl (by kernel_rfl)) rfl rfl) rfl .nil))) rfl rfl) Sd.non)))
theorem sc_states_of : FnScope ["program", "first", "found", "queue", "at", "move", "later"] ["program"] (defScope (topS 59)) := ⟨rfl, rfl, rfl, by decide +kernel, rfl, by decide +kernel, by decide +kernel⟩
theorem m_states_of (T : Tx P w K mg base ca fa pa) : FnM P w K mg base ca 7 (fa 37) 1 [] d_states_of := by
  obtain ⟨fd, ds, F, B, Vd⟩ := T.f_states_of
  exact FnM.of F sc_states_of rfl rfl B Vd (fun _ => rfl) fun cdv A outer s H E hr y => (Sts.cons y (St1.drop (Sd.call (x := "check_program") ((m_check_program T).mono (by decide : 1 ≤ 6)) hr y.tk rfl T.g_check_program (.cons (Sd.var (i := 0) rfl (.inl (by kernel_rfl)) rfl rfl) rfl .nil) rfl rfl)) (Sts.cons y (St1.set (i := 1) y (Sd.call (x := "first_state") ((m_first_state T).mono (by decide : 3 ≤ 6)) hr y.tk rfl T.g_first_state (.cons (Sd.var (i := 0) rfl (.inl (by kernel_rfl)) rfl rfl) rfl .nil) rfl rfl) rfl (.inl (by kernel_rfl))) (Sts.cons y (St1.own (i := 2) (n := Dn.dct true [(false, Dn.var 1)] [(false, Dn.call d_all_moves [(false, Dn.var 0), (false, Dn.var 1)])]) y (new_dct (k := true) y.u16 (by decide) (.cons (Sd.var (i := 1) rfl (.inl (by kernel_rfl)) rfl rfl) (Sd.call (x := "all_moves") ((m_all_moves T).mono (by decide : 6 ≤ 6)) hr y.tk rfl T.g_all_moves (.cons (Sd.var (i := 0) rfl (.inl (by kernel_rfl)) rfl rfl) rfl (.cons (Sd.var (i := 1) rfl (.inl (by kernel_rfl)) rfl rfl) rfl .nil)) rfl rfl) .nil)) rfl (.inl (by kernel_rfl))) (Sts.cons y (St1.own (i := 3) (n := Dn.lst [(false, Dn.var 1)]) y (new_lst (.cons (Sd.var (i := 1) rfl (.inl (by kernel_rfl)) rfl rfl) rfl .nil)) rfl (.inl (by kernel_rfl))) (Sts.cons y (St1.set (i := 4) y Sd.int rfl (.inl (by kernel_rfl))) (Sts.cons y (St1.while_ (fuel := 30000) y (Sd.cmp (o := .lt) y.hu (Sd.var (i := 4) rfl (.inl (by kernel_rfl)) rfl rfl) (Sd.biB (b := .len) cb_len (Sd.var (i := 3) rfl (.inl (by kernel_rfl)) rfl rfl) rfl T.z_len bt_len) rfl) (Sts.cons y (St1.for_ (t := .names [5, 6]) y (Si.val y.u16 (Sd.idx y.u16 (Sd.var (i := 2) rfl (.inl (by kernel_rfl)) rfl rfl) (Sd.idx y.u16 (Sd.var (i := 3) rfl (.inl (by kernel_rfl)) rfl rfl) (Sd.var (i := 4) rfl (.inl (by kernel_rfl)) rfl rfl) (fun _ _ => rfl)) (fun _ _ => rfl))) (TgOk.t y (.cons rfl (.inl (by kernel_rfl)) (.inr (by kernel_rfl)) (.cons rfl (.inl (by kernel_rfl)) (.inr (by kernel_rfl)) .nil))) (Sts.one (St1.if_ (Sd.cmp (o := .nin) y.hu (Sd.var (i := 6) rfl (.inl (by kernel_rfl)) rfl rfl) (Sd.var (i := 2) rfl (.inl (by kernel_rfl)) rfl rfl) rfl) (Sts.cons y (St1.setI y (Sd.var (i := 2) rfl (.inl (by kernel_rfl)) rfl rfl) (Sd.var (i := 6) rfl (.inl (by kernel_rfl)) rfl rfl) (Sd.call (x := "all_moves") ((m_all_moves T).mono (by decide : 6 ≤ 6)) hr y.tk rfl T.g_all_moves (.cons (Sd.var (i := 0) rfl (.inl (by kernel_rfl)) rfl rfl) rfl (.cons (Sd.var (i := 6) rfl (.inl (by kernel_rfl)) rfl rfl) rfl .nil)) rfl rfl)) (Sts.one (St1.app (i := 3) rfl (.inl (by kernel_rfl)) (Sd.var (i := 6) rfl (.inl (by kernel_rfl)) rfl rfl)))) Sts.nil))) (Sts.cons y (St1.if_ (Sd.cmp (o := .gt) y.hu (Sd.biB (b := .len) cb_len (Sd.var (i := 3) rfl (.inl (by kernel_rfl)) rfl rfl) rfl T.z_len bt_len) (Sd.globI rfl T.v_MOST_STATES rfl) rfl) (Sts.one (St1.raise y T.err hr rfl (Sd.biB (b := .len) cb_len (Sd.var (i := 3) rfl (.inl (by kernel_rfl)) rfl rfl) rfl T.z_len bt_len) rfl)) Sts.nil) (Sts.one (St1.set (i := 4) y (Sd.bin (o := .add) (Sd.var (i := 4) rfl (.inl (by kernel_rfl)) rfl rfl) Sd.int) rfl (.inl (by kernel_rfl))))))) (Sts.frz (i := 2) y (Sts.one (St1.ret (Sd.var (i := 2) rfl (.inl (by kernel_rfl)) rfl rfl))))))))))
theorem sc_many_states : FnScope ["program"] ["program"] (defScope (topS 60)) := ⟨rfl, rfl, rfl, by decide +kernel, rfl, by decide +kernel, by decide +kernel⟩
theorem m_many_states (T : Tx P w K mg base ca fa pa) : FnM P w K mg base ca 8 (fa 38) 1 [] d_many_states := by
  obtain ⟨fd, ds, F, B, Vd⟩ := T.f_many_states
  exact FnM.of F sc_many_states rfl rfl B Vd (fun _ => rfl) fun cdv A outer s H E hr y => (Sts.one (St1.ret (Sd.biB (b := .len) cb_len (Sd.call (x := "states_of") ((m_states_of T).mono (by decide : 7 ≤ 7)) hr y.tk rfl T.g_states_of (.cons (Sd.var (i := 0) rfl (.inl (by kernel_rfl)) rfl rfl) rfl .nil) rfl rfl) rfl T.z_len bt_len)))
theorem sc_small_enough : FnScope ["graph", "moves"] ["graph", "moves"] (defScope (topS 61)) := ⟨rfl, rfl, rfl, by decide +kernel, rfl, by decide +kernel, by decide +kernel⟩
theorem m_small_enough (T : Tx P w K mg base ca fa pa) : FnM P w K mg base ca 1 (fa 39) 2 [] d_small_enough := by
  obtain ⟨fd, ds, F, B, Vd⟩ := T.f_small_enough
  exact FnM.of F sc_small_enough rfl rfl B Vd (fun _ => rfl) fun cdv A outer s H E hr y => (Sts.cons y (St1.if_ (Sd.cmp (o := .gt) y.hu (Sd.bin (o := .mul) (Sd.biB (b := .len) cb_len (Sd.var (i := 0) rfl (.inl (by kernel_rfl)) rfl rfl) rfl T.z_len bt_len) (Sd.var (i := 1) rfl (.inl (by kernel_rfl)) rfl rfl)) (Sd.globI rfl T.v_MOST_COUNTS rfl) rfl) (Sts.one (St1.raise y T.err hr rfl (Sd.bin (o := .mul) (Sd.biB (b := .len) cb_len (Sd.var (i := 0) rfl (.inl (by kernel_rfl)) rfl rfl) rfl T.z_len bt_len) (Sd.var (i := 1) rfl (.inl (by kernel_rfl)) rfl rfl)) rfl)) Sts.nil) (Sts.one (St1.ret (Sd.var (i := 0) rfl (.inl (by kernel_rfl)) rfl rfl))))
theorem sc_Scripts_all_layers : FnScope ["self", "graph", "layers", "state", "size", "last", "move", "later"] ["self", "graph"] (defScope (memS 62 1)) := ⟨rfl, rfl, rfl, by decide +kernel, rfl, by decide +kernel, by decide +kernel⟩
theorem m_Scripts_all_layers (T : Tx P w K mg base ca fa pa) : FnM P w K mg base ca 1 (fa 40) 2 [] d_Scripts_all_layers := by
  obtain ⟨fd, ds, F, B, Vd⟩ := T.f_Scripts_all_layers
  exact FnM.of F sc_Scripts_all_layers rfl rfl B Vd (fun _ => rfl) fun cdv A outer s H E hr y => (Sts.cons y (St1.own (i := 2) (n := Dn.lst [(false, Dn.dc true [3] (.name 3) (Di.val (Dn.var 1)) [] (Dn.var 3) (Dn.cst (.int 1)))]) y (new_lst (.cons (Sd.dc (own := [("state", 3)]) (kk := true) y (Si.val y.u16 (Sd.var (i := 1) rfl (.inr (.inl (by kernel_rfl))) rfl rfl)) (Mp.BlkOk.of (by kernel_rfl)) (by decide) (fun s H C cl fp => (PgN (y.blk).nd rfl (.inl (by kernel_rfl)) (.inr (by kernel_rfl)))) (fun s H C cl fp => .nil) (fun s H C cl fp => (Sd.var (i := 3) rfl (.inl (by kernel_rfl)) rfl rfl)) (fun s H C cl fp => Sd.int)) rfl .nil)) rfl (.inl (by kernel_rfl))) (Sts.cons y (St1.for_ (t := .name 4) y (Si.range1 (Sd.attr (c := "Scripts") (f := "own_moves") (Sd.var (i := 0) rfl (.inl (by kernel_rfl)) rfl rfl) T.c_Scripts T.n_Scripts_own_moves) rfl T.z_range) (TgOk.n y rfl (.inl (by kernel_rfl)) (.inr (by kernel_rfl))) (Sts.cons y (St1.set (i := 5) y (Sd.idx y.u16 (Sd.var (i := 2) rfl (.inl (by kernel_rfl)) rfl rfl) (Sd.neg Sd.int) (fun _ _ => rfl)) rfl (.inr (by kernel_rfl))) (Sts.one (St1.app (i := 2) rfl (.inl (by kernel_rfl)) (Sd.dc (own := [("state", 3)]) (kk := true) y (Si.val y.u16 (Sd.var (i := 1) rfl (.inr (.inl (by kernel_rfl))) rfl rfl)) (Mp.BlkOk.of (by kernel_rfl)) (by decide) (fun s H C cl fp => (PgN (y.blk).nd rfl (.inl (by kernel_rfl)) (.inr (by kernel_rfl)))) (fun s H C cl fp => .nil) (fun s H C cl fp => (Sd.var (i := 3) rfl (.inl (by kernel_rfl)) rfl rfl)) (fun s H C cl fp => (Sd.biB (b := .sum) (cb_sum (y.blk).calm) (Sd.lc (own := [("move", 6), ("later", 7)]) (y.blk) (Si.val (y.blk).u16 (Sd.idx (y.blk).u16 (Sd.var (i := 1) rfl (.inr (.inl (by kernel_rfl))) rfl rfl) (Sd.var (i := 3) rfl (.inl (by kernel_rfl)) rfl rfl) (fun _ _ => rfl))) (Mp.BlkOk.of (by kernel_rfl)) (by decide) (fun s H C cl fp => (PgT ((y.blk).blk).calm ((y.blk).blk).nd (.cons rfl (.inl (by kernel_rfl)) (.inr (by kernel_rfl)) (.cons rfl (.inl (by kernel_rfl)) (.inr (by kernel_rfl)) .nil)))) (fun s H C cl fp => .nil) (fun s H C cl fp => (Sd.idx ((y.blk).blk).u16 (Sd.var (i := 5) rfl (.inr (.inl (by kernel_rfl))) rfl rfl) (Sd.var (i := 7) rfl (.inl (by kernel_rfl)) rfl rfl) (fun _ _ => rfl)))) rfl T.z_sum bt_sum))))))) (Sts.frz (i := 2) y (Sts.one (St1.ret (Sd.var (i := 2) rfl (.inl (by kernel_rfl)) rfl rfl))))))
theorem sc_Scripts___init__ : FnScope ["self", "program", "moves"] ["self", "program", "moves"] (defScope (memS 62 0)) := ⟨rfl, rfl, rfl, by decide +kernel, rfl, by decide +kernel, by decide +kernel⟩
theorem m_Scripts___init__ (T : Tx P w K mg base ca fa pa) : FnM P w K mg base ca 8 (fa 41) 3 [] d_Scripts___init__ := by
  obtain ⟨fd, ds, F, B, Vd⟩ := T.f_Scripts___init__
  exact FnM.of F sc_Scripts___init__ rfl rfl B Vd (fun _ => rfl) fun cdv A outer s H E hr y => (Sts.cons y (St1.drop (Sd.call (x := "check_program") ((m_check_program T).mono (by decide : 1 ≤ 7)) hr y.tk rfl T.g_check_program (.cons (Sd.var (i := 1) rfl (.inl (by kernel_rfl)) rfl rfl) rfl .nil) rfl rfl)) (Sts.cons y (St1.if_ (Sd.not_ (Sd.call (x := "is_within") ((m_is_within T).mono (by decide : 2 ≤ 7)) hr y.tk rfl T.g_is_within (.cons (Sd.var (i := 2) rfl (.inl (by kernel_rfl)) rfl rfl) rfl (.cons Sd.int rfl (.cons (Sd.globI rfl T.v_MOST_MOVES rfl) rfl .nil))) rfl rfl)) Sts.never Sts.nil) (Sts.cons y (St1.setA (cl := "Scripts") (f := "own_program") (Sd.var (i := 0) rfl (.inl (by kernel_rfl)) rfl rfl) (Sd.var (i := 1) rfl (.inl (by kernel_rfl)) rfl rfl) T.c_Scripts T.n_Scripts_own_program) (Sts.cons y (St1.setA (cl := "Scripts") (f := "own_moves") (Sd.var (i := 0) rfl (.inl (by kernel_rfl)) rfl rfl) (Sd.var (i := 2) rfl (.inl (by kernel_rfl)) rfl rfl) T.c_Scripts T.n_Scripts_own_moves) (Sts.cons y (St1.setA (cl := "Scripts") (f := "own_first") (Sd.var (i := 0) rfl (.inl (by kernel_rfl)) rfl rfl) (Sd.call (x := "first_state") ((m_first_state T).mono (by decide : 3 ≤ 7)) hr y.tk rfl T.g_first_state (.cons (Sd.var (i := 1) rfl (.inl (by kernel_rfl)) rfl rfl) rfl .nil) rfl rfl) T.c_Scripts T.n_Scripts_own_first) (Sts.one (St1.setA (cl := "Scripts") (f := "layers") (Sd.var (i := 0) rfl (.inl (by kernel_rfl)) rfl rfl) (Sd.meth (cl := "Scripts") (mm := "all_layers") ((m_Scripts_all_layers T).mono (by decide : 1 ≤ 7)) hr y (Sd.var (i := 0) rfl (.inl (by kernel_rfl)) rfl rfl) T.c_Scripts T.me_Scripts_all_layers (.cons (Sd.call (x := "small_enough") ((m_small_enough T).mono (by decide : 1 ≤ 7)) hr y.tk rfl T.g_small_enough (.cons (Sd.call (x := "states_of") ((m_states_of T).mono (by decide : 7 ≤ 7)) hr y.tk rfl T.g_states_of (.cons (Sd.var (i := 1) rfl (.inl (by kernel_rfl)) rfl rfl) rfl .nil) rfl rfl) rfl (.cons (Sd.var (i := 2) rfl (.inl (by kernel_rfl)) rfl rfl) rfl .nil)) rfl rfl) rfl .nil) rfl rfl) T.c_Scripts T.n_Scripts_layers)))))))
theorem sc_Scripts_length : FnScope ["self"] ["self"] (defScope (memS 62 2)) := ⟨rfl, rfl, rfl, by decide +kernel, rfl, by decide +kernel, by decide +kernel⟩
theorem m_Scripts_length (T : Tx P w K mg base ca fa pa) : FnM P w K mg base ca 1 (fa 42) 1 [] d_Scripts_length := by
  obtain ⟨fd, ds, F, B, Vd⟩ := T.f_Scripts_length
  exact FnM.of F sc_Scripts_length rfl rfl B Vd (fun _ => rfl) fun cdv A outer s H E hr y => (Sts.one (St1.ret (Sd.attr (c := "Scripts") (f := "own_moves") (Sd.var (i := 0) rfl (.inl (by kernel_rfl)) rfl rfl) T.c_Scripts T.n_Scripts_own_moves)))
theorem sc_Scripts_amount : FnScope ["self"] ["self"] (defScope (memS 62 3)) := ⟨rfl, rfl, rfl, by decide +kernel, rfl, by decide +kernel, by decide +kernel⟩
theorem m_Scripts_amount (T : Tx P w K mg base ca fa pa) : FnM P w K mg base ca 1 (fa 43) 1 [] d_Scripts_amount := by
  obtain ⟨fd, ds, F, B, Vd⟩ := T.f_Scripts_amount
  exact FnM.of F sc_Scripts_amount rfl rfl B Vd (fun _ => rfl) fun cdv A outer s H E hr y => (Sts.one (St1.ret (Sd.idx y.u16 (Sd.idx y.u16 (Sd.attr (c := "Scripts") (f := "layers") (Sd.var (i := 0) rfl (.inl (by kernel_rfl)) rfl rfl) T.c_Scripts T.n_Scripts_layers) (Sd.neg Sd.int) (fun _ _ => rfl)) (Sd.attr (c := "Scripts") (f := "own_first") (Sd.var (i := 0) rfl (.inl (by kernel_rfl)) rfl rfl) T.c_Scripts T.n_Scripts_own_first) (fun _ _ => rfl))))
theorem sc_Scripts_end_of : FnScope ["self", "script", "state", "move"] ["self", "script"] (defScope (memS 62 5)) := ⟨rfl, rfl, rfl, by decide +kernel, rfl, by decide +kernel, by decide +kernel⟩
theorem m_Scripts_end_of (T : Tx P w K mg base ca fa pa) : FnM P w K mg base ca 9 (fa 44) 2 [] d_Scripts_end_of := by
  obtain ⟨fd, ds, F, B, Vd⟩ := T.f_Scripts_end_of
  exact FnM.of F sc_Scripts_end_of rfl rfl B Vd (fun _ => rfl) fun cdv A outer s H E hr y => (Sts.cons y (St1.set (i := 2) y (Sd.attr (c := "Scripts") (f := "own_first") (Sd.var (i := 0) rfl (.inl (by kernel_rfl)) rfl rfl) T.c_Scripts T.n_Scripts_own_first) rfl (.inl (by kernel_rfl))) (Sts.cons y (St1.for_ (t := .name 3) y (Si.val y.u16 (Sd.var (i := 1) rfl (.inl (by kernel_rfl)) rfl rfl)) (TgOk.n y rfl (.inl (by kernel_rfl)) (.inr (by kernel_rfl))) (Sts.cons y (St1.set (i := 2) y (Sd.call (x := "after_move") ((m_after_move T).mono (by decide : 8 ≤ 8)) hr y.tk rfl T.g_after_move (.cons (Sd.attr (c := "Scripts") (f := "own_program") (Sd.var (i := 0) rfl (.inl (by kernel_rfl)) rfl rfl) T.c_Scripts T.n_Scripts_own_program) rfl (.cons (Sd.var (i := 2) rfl (.inl (by kernel_rfl)) rfl rfl) rfl (.cons (Sd.var (i := 3) rfl (.inl (by kernel_rfl)) rfl rfl) rfl .nil))) rfl rfl) rfl (.inl (by kernel_rfl))) (Sts.one (St1.if_ (Sd.cmp (o := .is_) y.hu (Sd.var (i := 2) rfl (.inl (by kernel_rfl)) rfl rfl) Sd.non rfl) (Sts.one (St1.ret Sd.non)) Sts.nil)))) (Sts.one (St1.ret (Sd.var (i := 2) rfl (.inl (by kernel_rfl)) rfl rfl)))))
theorem sc_Scripts___contains__ : FnScope ["self", "script"] ["self", "script"] (defScope (memS 62 4)) := ⟨rfl, rfl, rfl, by decide +kernel, rfl, by decide +kernel, by decide +kernel⟩
theorem m_Scripts___contains__ (T : Tx P w K mg base ca fa pa) : FnM P w K mg base ca 10 (fa 45) 2 [] d_Scripts___contains__ := by
  obtain ⟨fd, ds, F, B, Vd⟩ := T.f_Scripts___contains__
  exact FnM.of F sc_Scripts___contains__ rfl rfl B Vd (fun _ => rfl) fun cdv A outer s H E hr y => (Sts.one (St1.ret (Sd.and_ (.cons (Sd.isi (t := .list) (Sd.var (i := 1) rfl (.inl (by kernel_rfl)) rfl rfl) rfl T.z_isinstance bt_isinstance rfl T.z_list bt_list) rfl (.cons (Sd.cmp (o := .eq) y.hu (Sd.biB (b := .len) cb_len (Sd.var (i := 1) rfl (.inl (by kernel_rfl)) rfl rfl) rfl T.z_len bt_len) (Sd.attr (c := "Scripts") (f := "own_moves") (Sd.var (i := 0) rfl (.inl (by kernel_rfl)) rfl rfl) T.c_Scripts T.n_Scripts_own_moves) rfl) rfl (.cons (Sd.cmp (o := .isn) y.hu (Sd.meth (cl := "Scripts") (mm := "end_of") ((m_Scripts_end_of T).mono (by decide : 9 ≤ 9)) hr y (Sd.var (i := 0) rfl (.inl (by kernel_rfl)) rfl rfl) T.c_Scripts T.me_Scripts_end_of (.cons (Sd.var (i := 1) rfl (.inl (by kernel_rfl)) rfl rfl) rfl .nil) rfl rfl) Sd.non rfl) rfl .nil))) rfl (List.cons_ne_nil _ _))))
theorem sc_Scripts___getitem__ : FnScope ["self", "number", "state", "left", "found", "size", "move", "later"] ["self", "number"] (defScope (memS 62 6)) := ⟨rfl, rfl, rfl, by decide +kernel, rfl, by decide +kernel, by decide +kernel⟩
theorem m_Scripts___getitem__ (T : Tx P w K mg base ca fa pa) : FnM P w K mg base ca 7 (fa 46) 2 [] d_Scripts___getitem__ := by
  obtain ⟨fd, ds, F, B, Vd⟩ := T.f_Scripts___getitem__
  exact FnM.of F sc_Scripts___getitem__ rfl rfl B Vd (fun _ => rfl) fun cdv A outer s H E hr y => (Sts.cons y (St1.if_ (Sd.or_ (.cons (Sd.not_ (Sd.call (x := "is_integer") ((m_is_integer T).mono (by decide : 1 ≤ 6)) hr y.tk rfl T.g_is_integer (.cons (Sd.var (i := 1) rfl (.inl (by kernel_rfl)) rfl rfl) rfl .nil) rfl rfl)) rfl (.cons (Sd.not_ (Sd.chain (o := .le) (p := .lt) y.hu rfl rfl Sd.int (Sd.var (i := 1) rfl (.inl (by kernel_rfl)) rfl rfl) (Sd.prop (pp := "amount") (cl := "Scripts") ((m_Scripts_amount T).mono (by decide : 1 ≤ 5)) hr (Sd.var (i := 0) rfl (.inl (by kernel_rfl)) rfl rfl) T.c_Scripts T.p_Scripts_amount) rfl)) rfl .nil)) rfl (List.cons_ne_nil _ _)) Sts.never Sts.nil) (Sts.cons y (St1.set (i := 2) y (Sd.attr (c := "Scripts") (f := "own_first") (Sd.var (i := 0) rfl (.inl (by kernel_rfl)) rfl rfl) T.c_Scripts T.n_Scripts_own_first) rfl (.inl (by kernel_rfl))) (Sts.cons y (St1.set (i := 3) y (Sd.var (i := 1) rfl (.inl (by kernel_rfl)) rfl rfl) rfl (.inl (by kernel_rfl))) (Sts.cons y (St1.own (i := 4) (n := Dn.lst []) y (new_lst .nil) rfl (.inl (by kernel_rfl))) (Sts.cons y (St1.for_ (t := .name 5) y (Si.range3 (Sd.bin (o := .sub) (Sd.attr (c := "Scripts") (f := "own_moves") (Sd.var (i := 0) rfl (.inl (by kernel_rfl)) rfl rfl) T.c_Scripts T.n_Scripts_own_moves) Sd.int) (Sd.neg Sd.int) (Sd.neg Sd.int) rfl T.z_range) (TgOk.n y rfl (.inl (by kernel_rfl)) (.inr (by kernel_rfl))) (Sts.one (St1.for_ (t := .names [6, 7]) y (Si.val y.u16 (Sd.call (x := "all_moves") ((m_all_moves T).mono (by decide : 6 ≤ 6)) hr y.tk rfl T.g_all_moves (.cons (Sd.attr (c := "Scripts") (f := "own_program") (Sd.var (i := 0) rfl (.inl (by kernel_rfl)) rfl rfl) T.c_Scripts T.n_Scripts_own_program) rfl (.cons (Sd.var (i := 2) rfl (.inl (by kernel_rfl)) rfl rfl) rfl .nil)) rfl rfl)) (TgOk.t y (.cons rfl (.inl (by kernel_rfl)) (.inr (by kernel_rfl)) (.cons rfl (.inl (by kernel_rfl)) (.inr (by kernel_rfl)) .nil))) (Sts.cons y (St1.if_ (Sd.cmp (o := .lt) y.hu (Sd.var (i := 3) rfl (.inl (by kernel_rfl)) rfl rfl) (Sd.idx y.u16 (Sd.idx y.u16 (Sd.attr (c := "Scripts") (f := "layers") (Sd.var (i := 0) rfl (.inl (by kernel_rfl)) rfl rfl) T.c_Scripts T.n_Scripts_layers) (Sd.var (i := 5) rfl (.inl (by kernel_rfl)) rfl rfl) (fun _ _ => rfl)) (Sd.var (i := 7) rfl (.inl (by kernel_rfl)) rfl rfl) (fun _ _ => rfl)) rfl) (Sts.cons y (St1.app (i := 4) rfl (.inl (by kernel_rfl)) (Sd.var (i := 6) rfl (.inl (by kernel_rfl)) rfl rfl)) (Sts.cons y (St1.set (i := 2) y (Sd.var (i := 7) rfl (.inl (by kernel_rfl)) rfl rfl) rfl (.inl (by kernel_rfl))) (Sts.one St1.brk))) Sts.nil) (Sts.one (St1.set (i := 3) y (Sd.bin (o := .sub) (Sd.var (i := 3) rfl (.inl (by kernel_rfl)) rfl rfl) (Sd.idx y.u16 (Sd.idx y.u16 (Sd.attr (c := "Scripts") (f := "layers") (Sd.var (i := 0) rfl (.inl (by kernel_rfl)) rfl rfl) T.c_Scripts T.n_Scripts_layers) (Sd.var (i := 5) rfl (.inl (by kernel_rfl)) rfl rfl) (fun _ _ => rfl)) (Sd.var (i := 7) rfl (.inl (by kernel_rfl)) rfl rfl) (fun _ _ => rfl))) rfl (.inl (by kernel_rfl)))))))) (Sts.frz (i := 4) y (Sts.one (St1.ret (Sd.var (i := 4) rfl (.inl (by kernel_rfl)) rfl rfl)))))))))
theorem sc_Scripts_number_of : FnScope ["self", "script", "state", "found", "at", "move", "later", "other", "behind"] ["self", "script"] (defScope (memS 62 8)) := ⟨rfl, rfl, rfl, by decide +kernel, rfl, by decide +kernel, by decide +kernel⟩
theorem m_Scripts_number_of (T : Tx P w K mg base ca fa pa) : FnM P w K mg base ca 9 (fa 47) 2 [] d_Scripts_number_of := by
  obtain ⟨fd, ds, F, B, Vd⟩ := T.f_Scripts_number_of
  exact FnM.of F sc_Scripts_number_of rfl rfl B Vd (fun _ => rfl) fun cdv A outer s H E hr y => (Sts.cons y (St1.if_ (Sd.not_ (Sd.isi (t := .list) (Sd.var (i := 1) rfl (.inl (by kernel_rfl)) rfl rfl) rfl T.z_isinstance bt_isinstance rfl T.z_list bt_list)) Sts.never Sts.nil) (Sts.cons y (St1.set (i := 2) y (Sd.attr (c := "Scripts") (f := "own_first") (Sd.var (i := 0) rfl (.inl (by kernel_rfl)) rfl rfl) T.c_Scripts T.n_Scripts_own_first) rfl (.inl (by kernel_rfl))) (Sts.cons y (St1.set (i := 3) y Sd.int rfl (.inl (by kernel_rfl))) (Sts.cons y (St1.for_ (t := .names [4, 5]) y (Si.enum (Sd.var (i := 1) rfl (.inl (by kernel_rfl)) rfl rfl) rfl T.z_enumerate) (TgOk.t y (.cons rfl (.inl (by kernel_rfl)) (.inr (by kernel_rfl)) (.cons rfl (.inl (by kernel_rfl)) (.inr (by kernel_rfl)) .nil))) (Sts.cons y (St1.set (i := 6) y (Sd.call (x := "after_move") ((m_after_move T).mono (by decide : 8 ≤ 8)) hr y.tk rfl T.g_after_move (.cons (Sd.attr (c := "Scripts") (f := "own_program") (Sd.var (i := 0) rfl (.inl (by kernel_rfl)) rfl rfl) T.c_Scripts T.n_Scripts_own_program) rfl (.cons (Sd.var (i := 2) rfl (.inl (by kernel_rfl)) rfl rfl) rfl (.cons (Sd.var (i := 5) rfl (.inl (by kernel_rfl)) rfl rfl) rfl .nil))) rfl rfl) rfl (.inl (by kernel_rfl))) (Sts.cons y (St1.if_ (Sd.or_ (.cons (Sd.cmp (o := .is_) y.hu (Sd.var (i := 6) rfl (.inl (by kernel_rfl)) rfl rfl) Sd.non rfl) rfl (.cons (Sd.cmp (o := .eq) y.hu (Sd.var (i := 4) rfl (.inl (by kernel_rfl)) rfl rfl) (Sd.attr (c := "Scripts") (f := "own_moves") (Sd.var (i := 0) rfl (.inl (by kernel_rfl)) rfl rfl) T.c_Scripts T.n_Scripts_own_moves) rfl) rfl .nil)) rfl (List.cons_ne_nil _ _)) Sts.never Sts.nil) (Sts.cons y (St1.for_ (t := .names [7, 8]) y (Si.val y.u16 (Sd.call (x := "all_moves") ((m_all_moves T).mono (by decide : 6 ≤ 8)) hr y.tk rfl T.g_all_moves (.cons (Sd.attr (c := "Scripts") (f := "own_program") (Sd.var (i := 0) rfl (.inl (by kernel_rfl)) rfl rfl) T.c_Scripts T.n_Scripts_own_program) rfl (.cons (Sd.var (i := 2) rfl (.inl (by kernel_rfl)) rfl rfl) rfl .nil)) rfl rfl)) (TgOk.t y (.cons rfl (.inl (by kernel_rfl)) (.inr (by kernel_rfl)) (.cons rfl (.inl (by kernel_rfl)) (.inr (by kernel_rfl)) .nil))) (Sts.cons y (St1.if_ (Sd.cmp (o := .eq) y.hu (Sd.var (i := 7) rfl (.inl (by kernel_rfl)) rfl rfl) (Sd.var (i := 5) rfl (.inl (by kernel_rfl)) rfl rfl) rfl) (Sts.one St1.brk) Sts.nil) (Sts.one (St1.set (i := 3) y (Sd.bin (o := .add) (Sd.var (i := 3) rfl (.inl (by kernel_rfl)) rfl rfl) (Sd.idx y.u16 (Sd.idx y.u16 (Sd.attr (c := "Scripts") (f := "layers") (Sd.var (i := 0) rfl (.inl (by kernel_rfl)) rfl rfl) T.c_Scripts T.n_Scripts_layers) (Sd.bin (o := .sub) (Sd.bin (o := .sub) (Sd.attr (c := "Scripts") (f := "own_moves") (Sd.var (i := 0) rfl (.inl (by kernel_rfl)) rfl rfl) T.c_Scripts T.n_Scripts_own_moves) (Sd.var (i := 4) rfl (.inl (by kernel_rfl)) rfl rfl)) Sd.int) (fun _ _ => rfl)) (Sd.var (i := 8) rfl (.inl (by kernel_rfl)) rfl rfl) (fun _ _ => rfl))) rfl (.inl (by kernel_rfl)))))) (Sts.one (St1.set (i := 2) y (Sd.var (i := 6) rfl (.inl (by kernel_rfl)) rfl rfl) rfl (.inl (by kernel_rfl)))))))) (Sts.cons y (St1.if_ (Sd.cmp (o := .lt) y.hu (Sd.biB (b := .len) cb_len (Sd.var (i := 1) rfl (.inl (by kernel_rfl)) rfl rfl) rfl T.z_len bt_len) (Sd.attr (c := "Scripts") (f := "own_moves") (Sd.var (i := 0) rfl (.inl (by kernel_rfl)) rfl rfl) T.c_Scripts T.n_Scripts_own_moves) rfl) Sts.never Sts.nil) (Sts.one (St1.ret (Sd.var (i := 3) rfl (.inl (by kernel_rfl)) rfl rfl))))))))
theorem sc__law_numbers : FnScope ["_law_cell", "_law_salt", "_law_sizes", "_law_whole", "_law_left", "_law_result", "_law_k", "_law_one"] ["_law_cell", "_law_salt", "_law_sizes"] (defScope (topS 64)) := ⟨rfl, rfl, rfl, by decide +kernel, rfl, by decide +kernel, by decide +kernel⟩
theorem m__law_numbers (T : Tx P w K mg base ca fa pa) : FnM P w K mg base ca 1 (fa 48) 3 [] d__law_numbers := by
  obtain ⟨fd, ds, F, B, Vd⟩ := T.f__law_numbers
  exact FnM.of F sc__law_numbers rfl rfl B Vd (fun _ => rfl) fun cdv A outer s H E hr y => (Sts.cons y (St1.set (i := 3) y (Sd.biB2 (k := .max) (cb_max y.calm) (Sd.biT (b := .int) cb_int (Sd.var (i := 0) rfl (.inl (by kernel_rfl)) rfl rfl) rfl T.z_int bt_int) (Sd.biT (b := .int) cb_int (Sd.bin (o := .sub) (Sd.neg Sd.int) (Sd.var (i := 0) rfl (.inl (by kernel_rfl)) rfl rfl)) rfl T.z_int bt_int) rfl T.z_max bt_max) rfl (.inl (by kernel_rfl))) (Sts.cons y (St1.set (i := 4) y (Sd.var (i := 3) rfl (.inl (by kernel_rfl)) rfl rfl) rfl (.inl (by kernel_rfl))) (Sts.cons y (St1.own (i := 5) (n := Dn.lst []) y (new_lst .nil) rfl (.inl (by kernel_rfl))) (Sts.cons y (St1.for_ (t := .name 6) y (Si.range1 (Sd.biB (b := .len) cb_len (Sd.var (i := 2) rfl (.inl (by kernel_rfl)) rfl rfl) rfl T.z_len bt_len) rfl T.z_range) (TgOk.n y rfl (.inl (by kernel_rfl)) (.inr (by kernel_rfl))) (Sts.one (St1.if_ (Sd.and_ (.cons (Sd.cmp (o := .ge) y.hu (Sd.var (i := 3) rfl (.inl (by kernel_rfl)) rfl rfl) (Sd.bin (o := .pow) Sd.int Sd.int) rfl) rfl (.cons (Sd.cmp (o := .gt) y.hu (Sd.var (i := 4) rfl (.inl (by kernel_rfl)) rfl rfl) Sd.int rfl) rfl .nil)) rfl (List.cons_ne_nil _ _)) (Sts.cons y (St1.app (i := 5) rfl (.inl (by kernel_rfl)) (Sd.bin (o := .mod) (Sd.biT (b := .int) cb_int (Sd.var (i := 4) rfl (.inl (by kernel_rfl)) rfl rfl) rfl T.z_int bt_int) (Sd.idx y.u16 (Sd.var (i := 2) rfl (.inl (by kernel_rfl)) rfl rfl) (Sd.var (i := 6) rfl (.inl (by kernel_rfl)) rfl rfl) (fun _ _ => rfl)))) (Sts.one (St1.set (i := 4) y (Sd.bin (o := .fdiv) (Sd.var (i := 4) rfl (.inl (by kernel_rfl)) rfl rfl) (Sd.idx y.u16 (Sd.var (i := 2) rfl (.inl (by kernel_rfl)) rfl rfl) (Sd.var (i := 6) rfl (.inl (by kernel_rfl)) rfl rfl) (fun _ _ => rfl))) rfl (.inl (by kernel_rfl))))) (Sts.cons y (St1.set (i := 7) y (Sd.bin (o := .pow) (Sd.bin (o := .add) (Sd.bin (o := .add) (Sd.bin (o := .mod) (Sd.biT (b := .int) cb_int (Sd.var (i := 3) rfl (.inl (by kernel_rfl)) rfl rfl) rfl T.z_int bt_int) Sd.int) (Sd.bin (o := .mul) Sd.int (Sd.var (i := 1) rfl (.inl (by kernel_rfl)) rfl rfl))) Sd.int) Sd.int) rfl (.inl (by kernel_rfl))) (Sts.cons y (St1.set (i := 7) y (Sd.bin (o := .mul) (Sd.bin (o := .add) (Sd.bin (o := .mod) (Sd.biT (b := .int) cb_int (Sd.var (i := 7) rfl (.inl (by kernel_rfl)) rfl rfl) rfl T.z_int bt_int) Sd.int) (Sd.bin (o := .mul) Sd.int (Sd.bin (o := .add) (Sd.var (i := 6) rfl (.inl (by kernel_rfl)) rfl rfl) Sd.int))) (Sd.bin (o := .add) (Sd.var (i := 6) rfl (.inl (by kernel_rfl)) rfl rfl) Sd.int)) rfl (.inl (by kernel_rfl))) (Sts.cons y (St1.set (i := 7) y (Sd.bin (o := .mod) (Sd.biT (b := .int) cb_int (Sd.var (i := 7) rfl (.inl (by kernel_rfl)) rfl rfl) rfl T.z_int bt_int) Sd.int) rfl (.inl (by kernel_rfl))) (Sts.cons y (St1.set (i := 7) y (Sd.bin (o := .mul) (Sd.bin (o := .mod) (Sd.biT (b := .int) cb_int (Sd.bin (o := .pow) (Sd.var (i := 7) rfl (.inl (by kernel_rfl)) rfl rfl) Sd.int) rfl T.z_int bt_int) Sd.int) Sd.int) rfl (.inl (by kernel_rfl))) (Sts.cons y (St1.set (i := 7) y (Sd.bin (o := .mod) (Sd.biT (b := .int) cb_int (Sd.var (i := 7) rfl (.inl (by kernel_rfl)) rfl rfl) rfl T.z_int bt_int) Sd.int) rfl (.inl (by kernel_rfl))) (Sts.one (St1.app (i := 5) rfl (.inl (by kernel_rfl)) (Sd.bin (o := .mod) (Sd.biT (b := .int) cb_int (Sd.bin (o := .fdiv) (Sd.var (i := 7) rfl (.inl (by kernel_rfl)) rfl rfl) Sd.int) rfl T.z_int bt_int) (Sd.idx y.u16 (Sd.var (i := 2) rfl (.inl (by kernel_rfl)) rfl rfl) (Sd.var (i := 6) rfl (.inl (by kernel_rfl)) rfl rfl) (fun _ _ => rfl))))))))))))) (Sts.frz (i := 5) y (Sts.one (St1.ret (Sd.var (i := 5) rfl (.inl (by kernel_rfl)) rfl rfl))))))))
theorem sc__law_pool : FnScope ["_law_cell", "_law_salt", "_law_many"] ["_law_cell", "_law_salt", "_law_many"] (defScope (topS 65)) := ⟨rfl, rfl, rfl, by decide +kernel, rfl, by decide +kernel, by decide +kernel⟩
theorem m__law_pool (T : Tx P w K mg base ca fa pa) : FnM P w K mg base ca 2 (fa 49) 3 [] d__law_pool := by
  obtain ⟨fd, ds, F, B, Vd⟩ := T.f__law_pool
  exact FnM.of F sc__law_pool rfl rfl B Vd (fun _ => rfl) fun cdv A outer s H E hr y => (Sts.one (St1.ret (Sd.loc (n := Dn.lst [(false, Dn.call d__law_numbers [(false, Dn.var 0), (false, Dn.var 1), (false, Dn.bin .mul (Dn.lst [(false, Dn.cst (.int 420))]) (Dn.var 2))]), (false, Dn.cst (.int 0))]) (new_lst (.cons (Sd.call (x := "_law_numbers") ((m__law_numbers T).mono (by decide : 1 ≤ 1)) hr y.tk rfl T.g__law_numbers (.cons (Sd.var (i := 0) rfl (.inl (by kernel_rfl)) rfl rfl) rfl (.cons (Sd.var (i := 1) rfl (.inl (by kernel_rfl)) rfl rfl) rfl (.cons (Sd.bin (o := .mul) (Sd.lst (.cons Sd.int rfl .nil)) (Sd.var (i := 2) rfl (.inl (by kernel_rfl)) rfl rfl)) rfl .nil))) rfl rfl) rfl (.cons Sd.int rfl .nil))) rfl)))
theorem sc__law_draw : FnScope ["_law_pool_here", "_law_many", "_law_at"] ["_law_pool_here", "_law_many"] (defScope (topS 66)) := ⟨rfl, rfl, rfl, by decide +kernel, rfl, by decide +kernel, by decide +kernel⟩
theorem m__law_draw (T : Tx P w K mg base ca fa pa) : FnM P w K mg base ca 1 (fa 50) 2 [] d__law_draw := by
  obtain ⟨fd, ds, F, B, Vd⟩ := T.f__law_draw
  exact FnM.of F sc__law_draw rfl rfl B Vd (fun _ => rfl) fun cdv A outer s H E hr y => (Sts.cons y (St1.set (i := 2) y (Sd.idx y.u16 (Sd.var (i := 0) rfl (.inl (by kernel_rfl)) rfl rfl) Sd.int (fun _ _ => rfl)) rfl (.inl (by kernel_rfl))) (Sts.cons y (St1.setI y (Sd.var (i := 0) rfl (.inl (by kernel_rfl)) rfl rfl) Sd.int (Sd.bin (o := .add) (Sd.var (i := 2) rfl (.inl (by kernel_rfl)) rfl rfl) Sd.int)) (Sts.one (St1.ret (Sd.ite (Sd.cmp (o := .lt) y.hu (Sd.var (i := 2) rfl (.inl (by kernel_rfl)) rfl rfl) (Sd.biB (b := .len) cb_len (Sd.idx y.u16 (Sd.var (i := 0) rfl (.inl (by kernel_rfl)) rfl rfl) Sd.int (fun _ _ => rfl)) rfl T.z_len bt_len) rfl) (Sd.bin (o := .mod) (Sd.biT (b := .int) cb_int (Sd.idx y.u16 (Sd.idx y.u16 (Sd.var (i := 0) rfl (.inl (by kernel_rfl)) rfl rfl) Sd.int (fun _ _ => rfl)) (Sd.var (i := 2) rfl (.inl (by kernel_rfl)) rfl rfl) (fun _ _ => rfl)) rfl T.z_int bt_int) (Sd.var (i := 1) rfl (.inl (by kernel_rfl)) rfl rfl)) Sd.int)))))
theorem sc__law_opened : FnScope ["_law_script", "_law_k", "_law_many", "_law_cell"] ["_law_script", "_law_k", "_law_many"] (defScope (topS 67)) := ⟨rfl, rfl, rfl, by decide +kernel, rfl, by decide +kernel, by decide +kernel⟩
theorem m__law_opened (T : Tx P w K mg base ca fa pa) : FnM P w K mg base ca 3 (fa 51) 3 [] d__law_opened := by
  obtain ⟨fd, ds, F, B, Vd⟩ := T.f__law_opened
  exact FnM.of F sc__law_opened rfl rfl B Vd (fun _ => rfl) fun cdv A outer s H E hr y => (Sts.cons y (St1.set (i := 3) y (Sd.ite (Sd.cmp (o := .ne) y.hu (Sd.var (i := 0) rfl (.inl (by kernel_rfl)) rfl rfl) (Sd.lst .nil) rfl) (Sd.idx y.u16 (Sd.var (i := 0) rfl (.inl (by kernel_rfl)) rfl rfl) (Sd.var (i := 1) rfl (.inl (by kernel_rfl)) rfl rfl) (fun _ _ => rfl)) Sd.int) rfl (.inl (by kernel_rfl))) (Sts.one (St1.ret (Sd.call (x := "_law_pool") ((m__law_pool T).mono (by decide : 2 ≤ 2)) hr y.tk rfl T.g__law_pool (.cons (Sd.var (i := 3) rfl (.inl (by kernel_rfl)) rfl rfl) rfl (.cons (Sd.var (i := 1) rfl (.inl (by kernel_rfl)) rfl rfl) rfl (.cons (Sd.var (i := 2) rfl (.inl (by kernel_rfl)) rfl rfl) rfl .nil))) rfl rfl))))
theorem sc__law_endless : FnScope ["_law_has_line", "_law_lines"] ["_law_has_line"] (defScope (topS 68)) := ⟨rfl, rfl, rfl, by decide +kernel, rfl, by decide +kernel, by decide +kernel⟩
theorem m__law_endless (T : Tx P w K mg base ca fa pa) : FnM P w K mg base ca 8 (fa 52) 1 [] d__law_endless := by
  obtain ⟨fd, ds, F, B, Vd⟩ := T.f__law_endless
  exact FnM.of F sc__law_endless rfl rfl B Vd (fun _ => rfl) fun cdv A outer s H E hr y => (Sts.cons y (St1.set (i := 1) y (Sd.ite (Sd.var (i := 0) rfl (.inl (by kernel_rfl)) rfl rfl) (Sd.dct (k := false) y.u16 (.cons Sd.str (Sd.tup (.cons Sd.int rfl (.cons Sd.str rfl .nil))) .nil)) (Sd.dct (k := false) y.u16 .nil)) rfl (.inl (by kernel_rfl))) (Sts.one (St1.ret (Sd.frz (Sd.make (cl := "Program") ((m_Program___init__ T).mono (by decide : 6 ≤ 6)) T.mk_Program hr y.tk rfl T.g_Program (.cons Sd.int rfl (.cons Sd.int rfl (.cons (Sd.dct (k := false) y.u16 (.cons Sd.str Sd.int .nil)) rfl (.cons (Sd.dct (k := false) y.u16 (.cons Sd.str (Sd.lst (.cons (Sd.tup (.cons Sd.str rfl (.cons Sd.int rfl .nil))) rfl .nil)) (.cons Sd.str (Sd.lst .nil) .nil))) rfl (.cons (Sd.var (i := 1) rfl (.inl (by kernel_rfl)) rfl rfl) rfl .nil))))) rfl rfl) rfl))))
theorem sc__law_tower : FnScope ["_law_levels", "_law_rows", "_law_lines", "_law_at"] ["_law_levels"] (defScope (topS 69)) := ⟨rfl, rfl, rfl, by decide +kernel, rfl, by decide +kernel, by decide +kernel⟩
theorem m__law_tower (T : Tx P w K mg base ca fa pa) : FnM P w K mg base ca 8 (fa 53) 1 [] d__law_tower := by
  obtain ⟨fd, ds, F, B, Vd⟩ := T.f__law_tower
  exact FnM.of F sc__law_tower rfl rfl B Vd (fun _ => rfl) fun cdv A outer s H E hr y => (Sts.cons y (St1.set (i := 1) y (Sd.dct (k := false) y.u16 (.cons Sd.str (Sd.lst (.cons (Sd.tup (.cons Sd.str rfl (.cons Sd.str rfl .nil))) rfl (.cons (Sd.tup (.cons Sd.str rfl (.cons Sd.str rfl .nil))) rfl (.cons (Sd.tup (.cons Sd.str rfl (.cons Sd.str rfl .nil))) rfl (.cons (Sd.tup (.cons Sd.str rfl (.cons Sd.str rfl .nil))) rfl .nil))))) (.cons Sd.str (Sd.lst (.cons (Sd.tup (.cons Sd.str rfl (.cons Sd.str rfl .nil))) rfl .nil)) .nil))) rfl (.inl (by kernel_rfl))) (Sts.cons y (St1.set (i := 2) y (Sd.dictP y.calm (Sd.lc (own := [("_law_at", 3)]) y (Si.range1 (Sd.var (i := 0) rfl (.inl (by kernel_rfl)) rfl rfl) rfl T.z_range) (Mp.BlkOk.of (by kernel_rfl)) (by decide) (fun s H C cl fp => (PgN (y.blk).nd rfl (.inl (by kernel_rfl)) (.inr (by kernel_rfl)))) (fun s H C cl fp => .nil) (fun s H C cl fp => (Sd.tup (.cons (Sd.idx (y.blk).u16 Sd.str (Sd.var (i := 3) rfl (.inl (by kernel_rfl)) rfl rfl) (fun _ _ => rfl)) rfl (.cons (Sd.tup (.cons (Sd.bin (o := .add) (Sd.var (i := 3) rfl (.inl (by kernel_rfl)) rfl rfl) Sd.int) rfl (.cons Sd.str rfl .nil))) rfl .nil))))) rfl T.z_dict bt_dict) rfl (.inl (by kernel_rfl))) (Sts.one (St1.ret (Sd.frz (Sd.make (cl := "Program") ((m_Program___init__ T).mono (by decide : 6 ≤ 6)) T.mk_Program hr y.tk rfl T.g_Program (.cons Sd.int rfl (.cons Sd.int rfl (.cons (Sd.dct (k := false) y.u16 (.cons Sd.str Sd.int (.cons Sd.str Sd.int (.cons Sd.str Sd.int (.cons Sd.str Sd.int .nil))))) rfl (.cons (Sd.var (i := 1) rfl (.inl (by kernel_rfl)) rfl rfl) rfl (.cons (Sd.var (i := 2) rfl (.inl (by kernel_rfl)) rfl rfl) rfl .nil))))) rfl rfl) rfl)))))
theorem sc__law_sum : FnScope ["_law_many", "_law_one", "_law_other", "_law_turn"] ["_law_many"] (defScope (topS 70)) := ⟨rfl, rfl, rfl, by decide +kernel, rfl, by decide +kernel, by decide +kernel⟩
theorem m__law_sum (T : Tx P w K mg base ca fa pa) : FnM P w K mg base ca 1 (fa 54) 1 [] d__law_sum := by
  obtain ⟨fd, ds, F, B, Vd⟩ := T.f__law_sum
  exact FnM.of F sc__law_sum rfl rfl B Vd (fun _ => rfl) fun cdv A outer s H E hr y => (Sts.cons y (St1.asg (t := .names [1, 2]) (Sd.tup (.cons Sd.int rfl (.cons Sd.int rfl .nil))) (TgOk.t y (.cons rfl (.inl (by kernel_rfl)) (.inr (by kernel_rfl)) (.cons rfl (.inl (by kernel_rfl)) (.inr (by kernel_rfl)) .nil)))) (Sts.cons y (St1.for_ (t := .name 3) y (Si.range1 (Sd.var (i := 0) rfl (.inl (by kernel_rfl)) rfl rfl) rfl T.z_range) (TgOk.n y rfl (.inl (by kernel_rfl)) (.inr (by kernel_rfl))) (Sts.one (St1.par (i := 1) (j := 2) y rfl rfl (by decide) (by kernel_rfl) (by kernel_rfl) (Sd.bin (o := .add) (Sd.var (i := 1) rfl (.inl (by kernel_rfl)) rfl rfl) (Sd.var (i := 2) rfl (.inl (by kernel_rfl)) rfl rfl)) (Sd.var (i := 1) rfl (.inl (by kernel_rfl)) rfl rfl) (by kernel_rfl) rfl rfl))) (Sts.one (St1.ret (Sd.var (i := 1) rfl (.inl (by kernel_rfl)) rfl rfl)))))
theorem sc__law_told : FnScope ["_law_program", "_law_moves", "e"] ["_law_program", "_law_moves"] (defScope (topS 71)) := ⟨rfl, rfl, rfl, by decide +kernel, rfl, by decide +kernel, by decide +kernel⟩
theorem m__law_told (T : Tx P w K mg base ca fa pa) : FnM P w K mg base ca 10 (fa 55) 2 [] d__law_told := by
  obtain ⟨fd, ds, F, B, Vd⟩ := T.f__law_told
  exact FnM.of F sc__law_told rfl rfl B Vd (fun _ => rfl) fun cdv A outer s H E hr y => (Sts.one (St1.tryRet (i := 2) y T.err rfl rfl rfl rfl rfl told_ok tell_told (fun W pn xe tk po => (Sts.one (St1.ret (Sd.lst (.cons Sd.str rfl (.cons (Sd.prop (pp := "amount") (cl := "Scripts") ((m_Scripts_amount T).mono (by decide : 1 ≤ 8)) hr (Sd.frz (Sd.make (cl := "Scripts") ((m_Scripts___init__ T).mono (by decide : 8 ≤ 8)) T.mk_Scripts hr tk rfl T.g_Scripts (.cons (Sd.var (i := 0) rfl (.inl (by kernel_rfl)) rfl rfl) rfl (.cons (Sd.var (i := 1) rfl (.inl (by kernel_rfl)) rfl rfl) rfl .nil)) rfl rfl) rfl) T.c_Scripts T.p_Scripts_amount) rfl .nil)))))) (fun a oe cls d pn hz hf => (pe_lst (pa_cons pe_str (pa_cons (pe_num T.err hz hf (pe_var (i := 2) rfl (.inl (by kernel_rfl)) rfl) rfl) pa_nil))))))
theorem sc__law_great : FnScope ["_law_program", "e"] ["_law_program"] (defScope (topS 72)) := ⟨rfl, rfl, rfl, by decide +kernel, rfl, by decide +kernel, by decide +kernel⟩
theorem m__law_great (T : Tx P w K mg base ca fa pa) : FnM P w K mg base ca 9 (fa 56) 1 [] d__law_great := by
  obtain ⟨fd, ds, F, B, Vd⟩ := T.f__law_great
  exact FnM.of F sc__law_great rfl rfl B Vd (fun _ => rfl) fun cdv A outer s H E hr y => (Sts.cons y (St1.tryRet (i := 1) y T.err rfl rfl rfl rfl rfl above_ok tell_above (fun W pn xe tk po => (Sts.one (St1.drop (Sd.call (x := "many_states") ((m_many_states T).mono (by decide : 8 ≤ 8)) hr tk rfl T.g_many_states (.cons (Sd.var (i := 0) rfl (.inl (by kernel_rfl)) rfl rfl) rfl .nil) rfl rfl)))) (fun a oe cls d pn hz hf => (pe_cmpR op_gt (pe_num T.err hz hf (pe_var (i := 1) rfl (.inl (by kernel_rfl)) rfl) rfl) pe_int rfl))) (Sts.one (St1.ret Sd.bl)))
theorem sc_law : FnScope ["_law_script", "_law_k", "_law_pool_here", "_law_many", "_law_scripts", "_law_alone", "_law_number", "_law_found", "_law_plain"] ["_law_script"] (defScope (topS 73)) := ⟨rfl, rfl, rfl, by decide +kernel, rfl, by decide +kernel, by decide +kernel⟩
theorem ok_law (T : Tx P w K mg base ca fa pa) {fd : FuncData} (F : FunD K "law" "law" (defArgs (topS 73)) (defBody (topS 73)) (defScope (topS 73)) [] [] (fa 57) fd) : FnOk P w K mg base (L2.CX P w) 11 (fa 57) fd ["_law_script"] (spM w ca 1 d_law) := by
  exact FnOk.ofB F sc_law rfl rfl fun cdv A outer s H E hr y => (Sts.cons y (St1.for_ (t := .name 1) y (Si.range1 (Sd.biB2 (k := .max) (cb_max y.calm) Sd.int (Sd.biB2 (k := .min) (cb_min y.calm) (Sd.biB (b := .len) cb_len (Sd.var (i := 0) rfl (.inl (by kernel_rfl)) rfl rfl) rfl T.z_len bt_len) Sd.int rfl T.z_min bt_min) rfl T.z_max bt_max) rfl T.z_range) (TgOk.n y rfl (.inl (by kernel_rfl)) (.inr (by kernel_rfl))) (Sts.cons y (St1.set (i := 2) y (Sd.call (x := "_law_opened") ((m__law_opened T).mono (by decide : 3 ≤ 10)) hr y.tk rfl T.g__law_opened (.cons (Sd.var (i := 0) rfl (.inl (by kernel_rfl)) rfl rfl) rfl (.cons (Sd.var (i := 1) rfl (.inl (by kernel_rfl)) rfl rfl) rfl (.cons Sd.int rfl .nil))) rfl rfl) rfl (.inl (by kernel_rfl))) (Sts.cons y (St1.set (i := 3) y (Sd.idx y.u16 (Sd.lst (.cons Sd.int rfl (.cons Sd.int rfl (.cons Sd.int rfl (.cons Sd.int rfl (.cons Sd.int rfl (.cons Sd.int rfl .nil))))))) (Sd.call (x := "_law_draw") ((m__law_draw T).mono (by decide : 1 ≤ 10)) hr y.tk rfl T.g__law_draw (.cons (Sd.var (i := 2) rfl (.inl (by kernel_rfl)) rfl rfl) rfl (.cons Sd.int rfl .nil)) rfl rfl) (fun _ _ => rfl)) rfl (.inl (by kernel_rfl))) (Sts.cons y (St1.par (i := 4) (j := 5) y rfl rfl (by decide) (by kernel_rfl) (by kernel_rfl) (Sd.frz (Sd.make (cl := "Scripts") ((m_Scripts___init__ T).mono (by decide : 8 ≤ 9)) T.mk_Scripts hr y.tk rfl T.g_Scripts (.cons (Sd.call (x := "_law_endless") ((m__law_endless T).mono (by decide : 8 ≤ 10)) hr y.tk rfl T.g__law_endless (.cons Sd.bl rfl .nil) rfl rfl) rfl (.cons (Sd.var (i := 3) rfl (.inl (by kernel_rfl)) rfl rfl) rfl .nil)) rfl rfl) rfl) (Sd.frz (Sd.make (cl := "Scripts") ((m_Scripts___init__ T).mono (by decide : 8 ≤ 9)) T.mk_Scripts hr y.tk rfl T.g_Scripts (.cons (Sd.call (x := "_law_endless") ((m__law_endless T).mono (by decide : 8 ≤ 10)) hr y.tk rfl T.g__law_endless (.cons Sd.bl rfl .nil) rfl rfl) rfl (.cons (Sd.var (i := 3) rfl (.inl (by kernel_rfl)) rfl rfl) rfl .nil)) rfl rfl) rfl) (by kernel_rfl) rfl rfl) (Sts.cons y (St1.if_ (Sd.or_ (.cons (Sd.cmp (o := .ne) y.hu (Sd.prop (pp := "amount") (cl := "Scripts") ((m_Scripts_amount T).mono (by decide : 1 ≤ 9)) hr (Sd.var (i := 4) rfl (.inl (by kernel_rfl)) rfl rfl) T.c_Scripts T.p_Scripts_amount) (Sd.call (x := "_law_sum") ((m__law_sum T).mono (by decide : 1 ≤ 10)) hr y.tk rfl T.g__law_sum (.cons (Sd.var (i := 3) rfl (.inl (by kernel_rfl)) rfl rfl) rfl .nil) rfl rfl) rfl) rfl (.cons (Sd.cmp (o := .ne) y.hu (Sd.prop (pp := "length") (cl := "Scripts") ((m_Scripts_length T).mono (by decide : 1 ≤ 9)) hr (Sd.var (i := 4) rfl (.inl (by kernel_rfl)) rfl rfl) T.c_Scripts T.p_Scripts_length) (Sd.var (i := 3) rfl (.inl (by kernel_rfl)) rfl rfl) rfl) rfl (.cons (Sd.cmp (o := .ne) y.hu (Sd.prop (pp := "amount") (cl := "Scripts") ((m_Scripts_amount T).mono (by decide : 1 ≤ 9)) hr (Sd.var (i := 5) rfl (.inl (by kernel_rfl)) rfl rfl) T.c_Scripts T.p_Scripts_amount) Sd.int rfl) rfl .nil))) rfl (List.cons_ne_nil _ _)) (Sts.one (St1.ret Sd.bl)) Sts.nil) (Sts.cons y (St1.if_ (Sd.or_ (.cons (Sd.cmp (o := .ne) y.hu (Sd.item (cl := "Scripts") ((m_Scripts___getitem__ T).mono (by decide : 7 ≤ 9)) hr (Sd.var (i := 5) rfl (.inl (by kernel_rfl)) rfl rfl) Sd.int T.du_Scripts___getitem__ (fun _ _ => rfl)) (Sd.bin (o := .mul) (Sd.lst (.cons (Sd.tup (.cons Sd.str rfl (.cons Sd.int rfl .nil))) rfl .nil)) (Sd.var (i := 3) rfl (.inl (by kernel_rfl)) rfl rfl)) rfl) rfl (.cons (Sd.cmp (o := .ne) y.hu (Sd.meth (cl := "Scripts") (mm := "number_of") ((m_Scripts_number_of T).mono (by decide : 9 ≤ 10)) hr y (Sd.var (i := 5) rfl (.inl (by kernel_rfl)) rfl rfl) T.c_Scripts T.me_Scripts_number_of (.cons (Sd.bin (o := .mul) (Sd.lst (.cons (Sd.tup (.cons Sd.str rfl (.cons Sd.int rfl .nil))) rfl .nil)) (Sd.var (i := 3) rfl (.inl (by kernel_rfl)) rfl rfl)) rfl .nil) rfl rfl) Sd.int rfl) rfl .nil)) rfl (List.cons_ne_nil _ _)) (Sts.one (St1.ret Sd.bl)) Sts.nil) (Sts.cons y (St1.for_ (t := .name 6) y (Si.val y.u16 (Sd.lst (.cons Sd.int rfl (.cons (Sd.bin (o := .sub) (Sd.prop (pp := "amount") (cl := "Scripts") ((m_Scripts_amount T).mono (by decide : 1 ≤ 9)) hr (Sd.var (i := 4) rfl (.inl (by kernel_rfl)) rfl rfl) T.c_Scripts T.p_Scripts_amount) Sd.int) rfl (.cons (Sd.bin (o := .mod) (Sd.bin (o := .mul) (Sd.bin (o := .add) (Sd.call (x := "_law_draw") ((m__law_draw T).mono (by decide : 1 ≤ 10)) hr y.tk rfl T.g__law_draw (.cons (Sd.var (i := 2) rfl (.inl (by kernel_rfl)) rfl rfl) rfl (.cons Sd.int rfl .nil)) rfl rfl) Sd.int) (Sd.bin (o := .pow) Sd.int Sd.int)) (Sd.prop (pp := "amount") (cl := "Scripts") ((m_Scripts_amount T).mono (by decide : 1 ≤ 9)) hr (Sd.var (i := 4) rfl (.inl (by kernel_rfl)) rfl rfl) T.c_Scripts T.p_Scripts_amount)) rfl .nil))))) (TgOk.n y rfl (.inl (by kernel_rfl)) (.inr (by kernel_rfl))) (Sts.cons y (St1.set (i := 7) y (Sd.item (cl := "Scripts") ((m_Scripts___getitem__ T).mono (by decide : 7 ≤ 9)) hr (Sd.var (i := 4) rfl (.inl (by kernel_rfl)) rfl rfl) (Sd.var (i := 6) rfl (.inl (by kernel_rfl)) rfl rfl) T.du_Scripts___getitem__ (fun _ _ => rfl)) rfl (.inl (by kernel_rfl))) (Sts.one (St1.if_ (Sd.or_ (.cons (Sd.cmp (o := .ne) y.hu (Sd.biB (b := .len) cb_len (Sd.var (i := 7) rfl (.inl (by kernel_rfl)) rfl rfl) rfl T.z_len bt_len) (Sd.var (i := 3) rfl (.inl (by kernel_rfl)) rfl rfl) rfl) rfl (.cons (Sd.cmp (o := .ne) y.hu (Sd.meth (cl := "Scripts") (mm := "number_of") ((m_Scripts_number_of T).mono (by decide : 9 ≤ 10)) hr y (Sd.var (i := 4) rfl (.inl (by kernel_rfl)) rfl rfl) T.c_Scripts T.me_Scripts_number_of (.cons (Sd.var (i := 7) rfl (.inl (by kernel_rfl)) rfl rfl) rfl .nil) rfl rfl) (Sd.var (i := 6) rfl (.inl (by kernel_rfl)) rfl rfl) rfl) rfl (.cons (Sd.among (neg := true) (cl := "Scripts") ((m_Scripts___contains__ T).mono (by decide : 10 ≤ 10)) hr T.du_Scripts___contains__ (Sd.var (i := 7) rfl (.inl (by kernel_rfl)) rfl rfl) (Sd.var (i := 4) rfl (.inl (by kernel_rfl)) rfl rfl) rfl) rfl .nil))) rfl (List.cons_ne_nil _ _)) (Sts.one (St1.ret Sd.bl)) Sts.nil)))) (Sts.cons y (St1.set (i := 8) y (Sd.call (x := "_law_tower") ((m__law_tower T).mono (by decide : 8 ≤ 10)) hr y.tk rfl T.g__law_tower (.cons Sd.int rfl .nil) rfl rfl) rfl (.inl (by kernel_rfl))) (Sts.cons y (St1.if_ (Sd.or_ (.cons (Sd.cmp (o := .ne) y.hu (Sd.call (x := "many_states") ((m_many_states T).mono (by decide : 8 ≤ 10)) hr y.tk rfl T.g_many_states (.cons (Sd.var (i := 8) rfl (.inl (by kernel_rfl)) rfl rfl) rfl .nil) rfl rfl) Sd.int rfl) rfl (.cons (Sd.cmp (o := .ne) y.hu (Sd.call (x := "many_states") ((m_many_states T).mono (by decide : 8 ≤ 10)) hr y.tk rfl T.g_many_states (.cons (Sd.call (x := "_law_tower") ((m__law_tower T).mono (by decide : 8 ≤ 10)) hr y.tk rfl T.g__law_tower (.cons Sd.int rfl .nil) rfl rfl) rfl .nil) rfl rfl) (Sd.bin (o := .mul) Sd.int Sd.int) rfl) rfl .nil)) rfl (List.cons_ne_nil _ _)) (Sts.one (St1.ret Sd.bl)) Sts.nil) (Sts.cons y (St1.if_ (Sd.or_ (.cons (Sd.cmp (o := .ne) y.hu (Sd.call (x := "_law_told") ((m__law_told T).mono (by decide : 10 ≤ 10)) hr y.tk rfl T.g__law_told (.cons (Sd.var (i := 8) rfl (.inl (by kernel_rfl)) rfl rfl) rfl (.cons Sd.int rfl .nil)) rfl rfl) (Sd.lst (.cons Sd.str rfl (.cons (Sd.bin (o := .mul) Sd.int Sd.int) rfl .nil))) rfl) rfl (.cons (Sd.cmp (o := .ne) y.hu (Sd.idx y.u16 (Sd.call (x := "_law_told") ((m__law_told T).mono (by decide : 10 ≤ 10)) hr y.tk rfl T.g__law_told (.cons (Sd.var (i := 8) rfl (.inl (by kernel_rfl)) rfl rfl) rfl (.cons Sd.int rfl .nil)) rfl rfl) Sd.int (fun _ _ => rfl)) Sd.str rfl) rfl .nil)) rfl (List.cons_ne_nil _ _)) (Sts.one (St1.ret Sd.bl)) Sts.nil) (Sts.cons y (St1.if_ (Sd.or_ (.cons (Sd.cmp (o := .ne) y.hu (Sd.call (x := "_law_told") ((m__law_told T).mono (by decide : 10 ≤ 10)) hr y.tk rfl T.g__law_told (.cons (Sd.var (i := 8) rfl (.inl (by kernel_rfl)) rfl rfl) rfl (.cons Sd.int rfl .nil)) rfl rfl) (Sd.lst (.cons Sd.str rfl (.cons Sd.int rfl .nil))) rfl) rfl (.cons (Sd.cmp (o := .ne) y.hu (Sd.call (x := "_law_told") ((m__law_told T).mono (by decide : 10 ≤ 10)) hr y.tk rfl T.g__law_told (.cons (Sd.var (i := 8) rfl (.inl (by kernel_rfl)) rfl rfl) rfl (.cons Sd.int rfl .nil)) rfl rfl) (Sd.lst (.cons Sd.str rfl (.cons Sd.int rfl .nil))) rfl) rfl .nil)) rfl (List.cons_ne_nil _ _)) (Sts.one (St1.ret Sd.bl)) Sts.nil) (Sts.one (St1.if_ (Sd.and_ (.cons (Sd.cmp (o := .eq) y.hu (Sd.var (i := 1) rfl (.inl (by kernel_rfl)) rfl rfl) Sd.int rfl) rfl (.cons (Sd.not_ (Sd.call (x := "_law_great") ((m__law_great T).mono (by decide : 9 ≤ 10)) hr y.tk rfl T.g__law_great (.cons (Sd.call (x := "_law_tower") ((m__law_tower T).mono (by decide : 8 ≤ 10)) hr y.tk rfl T.g__law_tower (.cons Sd.int rfl .nil) rfl rfl) rfl .nil) rfl rfl)) rfl .nil)) rfl (List.cons_ne_nil _ _)) (Sts.one (St1.ret Sd.bl)) Sts.nil))))))))))))) (Sts.one (St1.ret Sd.bl)))
end Kt

/-! More facts of a head: properties, double-underscore methods, an own exception, tables (own work; the hook follows the shape of the library's own). -/
namespace Kt
open PySem PySem.Spec PyProof.Rows L2 Mp
def pAd (K : PySem.W.Frag) (C m : Str) : Addr := He.ma K (He.ga K C) m
def gAd (K : PySem.W.Frag) (C m : Str) : Addr := match PySem.W.recIn K (pAd K C m) "property" with
  | some (.ref g :: _) => g
  | _ => 0
def ndec {α : Type} [DecidableEq α] (a b : α) : Bool := decide (a = b)
def insB (K : PySem.W.Frag) (C : Str) : Bool := He.eqO (PySem.W.findIn K (.ref (He.ga K C)) "__class__") (some (some (.builtin "object.__class__"))) && (He.eqO (PySem.W.specialIn K (.builtin "object.__class__") "__get__") (some (some (.builtin "getset_descriptor.__get__"))) &&
  (decide (PySem.W.takesIn K (.builtin "object.__class__") = some true) && (decide (PySem.W.mroIn K (He.ga K C) (.type "object") = some true) && decide (PySem.W.kitOne K (.ref (He.ga K C)) (.ref (He.ga K C)) = some true))))
theorem insB_ok {K : PySem.W.Frag} {C : Str} (hc : Cls K (He.ga K C)) (h : insB K C = true) : C8.InsC K (He.ga K C) := by
  unfold insB at h
  obtain ⟨h1, h⟩ := He.ba h
  obtain ⟨h2, h⟩ := He.ba h
  obtain ⟨h3, h⟩ := He.ba h
  obtain ⟨h4, h5⟩ := He.ba h
  exact ⟨hc, He.eqO_ok h1, He.eqO_ok h2, of_decide_eq_true h3, of_decide_eq_true h4, of_decide_eq_true h5⟩
def propB (K : PySem.W.Frag) (C m : Str) : Bool := He.eqO (PySem.W.findIn K (.ref (He.ga K C)) m) (some (some (.ref (pAd K C m)))) && (He.eqO (PySem.W.specialIn K (.ref (pAd K C m)) "__get__") (some (some (.builtin "property.__get__"))) &&
  (decide (PySem.W.takesIn K (.ref (pAd K C m)) = some true) && (match PySem.W.recIn K (pAd K C m) "property" with | some (.ref _ :: _) => true | _ => false)))
theorem propB_ok {K : PySem.W.Frag} {C m : Str} (h : propB K C m = true) : PropOf K (He.ga K C) m (pAd K C m) (gAd K C m) := by
  unfold propB at h
  obtain ⟨h1, h⟩ := He.ba h
  obtain ⟨h2, h⟩ := He.ba h
  obtain ⟨h3, h4⟩ := He.ba h
  refine ⟨He.eqO_ok h1, He.eqO_ok h2, of_decide_eq_true h3, ?_⟩
  unfold gAd
  split at h4
  · rename_i g r e
    rw [e]
    exact ⟨r, rfl⟩
  · cases h4
def dunB (K : PySem.W.Frag) (C m : Str) : Bool := He.eqO (PySem.W.findIn K (.ref (He.ga K C)) m) (some (some (.ref (He.ma K (He.ga K C) m)))) && (PySem.W.isFn K (.ref (He.ma K (He.ga K C) m)) && PySem.W.fnIn K (He.ma K (He.ga K C) m))
theorem dunB_ok {K : PySem.W.Frag} {C m : Str} (h : dunB K C m = true) : Dun K (He.ga K C) m (He.ma K (He.ga K C) m) := by
  obtain ⟨h1, h⟩ := He.ba h
  obtain ⟨h2, h3⟩ := He.ba h
  exact ⟨He.eqO_ok h1, h2, h3⟩
def slB : List (Option Value) → Bool
  | [_, _, _, _, some (.builtin n), _] => decide (n = "Exception.__new__")
  | _ => false
theorem slB_ok {l : List (Option Value)} (h : slB l = true) : ∃ k0 k1 k2 k3 k5, l = [k0, k1, k2, k3, some (.builtin "Exception.__new__"), k5] := by
  unfold slB at h
  split at h
  · have hn := of_decide_eq_true h
    subst hn
    exact ⟨_, _, _, _, _, rfl⟩
  · cases h
def excB (K : PySem.W.Frag) (C : Addr) : Bool := match K.lookup C with
  | some ⟨.type t, _, .cls ⟨_, _, .ref c :: .ref _ :: rest, _, _, hd, _, _, _, _, del⟩, sl⟩ => decide (t = "type") && (decide (c = C) && (decide (rest = PySem.ErrX.exTail) && (hd && (!del && slB sl.toList))))
  | _ => false
theorem excB_ok {K : PySem.W.Frag} {C : Addr} (h : excB K C = true) : ∃ nm q N bs B sn sub ab col dd k0 k1 k2 k3 k5, K.lookup C = some (excClassObj nm q C N bs (.ref B :: PySem.ErrX.exTail) true sn sub ab col dd k0 k1 k2 k3 k5 "Exception.__new__") := by
  unfold excB at h
  split at h
  · rename_i t od nm bs c B rest N q hd sn sub ab col del sl e
    obtain ⟨h1, h⟩ := He.ba h
    obtain ⟨h2, h⟩ := He.ba h
    obtain ⟨h3, h⟩ := He.ba h
    obtain ⟨h4, h⟩ := He.ba h
    obtain ⟨h5, h6⟩ := He.ba h
    have h1 := of_decide_eq_true h1
    have h2 := of_decide_eq_true h2
    have h3 := of_decide_eq_true h3
    have h5 : del = false := by simpa using h5
    obtain ⟨k0, k1, k2, k3, k5, es⟩ := slB_ok h6
    have es' : sl = #[k0, k1, k2, k3, some (.builtin "Exception.__new__"), k5] := by
      rw [← Array.toList_inj, es]
    subst h1 h2 h3 h4 h5 es'
    exact ⟨nm, q, N, bs, B, sn, sub, ab, col, od, k0, k1, k2, k3, k5, e⟩
  · cases h
def errB (K : PySem.W.Frag) (C : Addr) : Bool := He.eqO (PySem.W.findIn K (.ref C) "__setattr__") (some (some (.builtin "object.__setattr__"))) && (He.eqO (PySem.W.findIn K (.ref C) "__getattribute__") (some (some (.builtin "BaseException.__getattribute__"))) &&
  (He.eqO (PySem.W.findIn K (.ref C) "__getattr__") (some none) && (decide (PySem.W.typeIn K (.ref (He.ma K C "__init__")) = some (.type "function")) && (decide (PySem.W.subIn K (.ref C) (.type "BaseException") = some true) &&
    (decide (PySem.W.typeIn K (.ref C) = some (.type "type")) && PySem.W.hasDictIn K C)))))
def ntxB (K : PySem.W.Frag) (k v : Str) : Bool := match PySem.W.nsIn K (He.ga K "FORMS") k with
  | some (some (.str y _)) => decide (y = v)
  | _ => false
theorem ntxB_ok {K : PySem.W.Frag} {k v : Str} (h : ntxB K k v = true) : ∃ t, PySem.W.nsIn K (He.ga K "FORMS") k = some (some (.str v t)) := by
  unfold ntxB at h
  split at h
  · rename_i y t e
    have hy := of_decide_eq_true h
    subst hy
    exact ⟨t, e⟩
  · cases h
/-! ### a def found by a path -/
def fnWA (K : PySem.W.Frag) (a : Addr) : He.FnW := match K.lookup a with
  | some ⟨_, _, .func fd, _⟩ => some (fd.name, fd.qualname, fd.params, fd.body, fd.scope, fd.globals, fd.closure, fd.builtins)
  | _ => none
def okA (K : PySem.W.Frag) (a : Addr) (d : He.DefD) : Bool := PySem.W.keepIn K (.ref a) && (match K.lookup a with
  | some ⟨_, _, .func fd, _⟩ => PySem.W.codeIn K fd.code d.qual && (He.dflB K fd.defaults (d.dvs K) && He.kwdB K fd.kwdefaults (d.kws K))
  | _ => false)
theorem funA {K : PySem.W.Frag} {a : Addr} {d : He.DefD} (e : fnWA K a = d.val) (c : okA K a d = true) : ∃ fd, FunD K d.name d.qual d.params d.body d.scope (d.dvs K) (d.kws K) a fd := by
  obtain ⟨kp, c2⟩ := He.ba c
  unfold fnWA at e
  cases q : K.lookup a with
  | none =>
    rw [q] at c2
    cases c2
  | some o =>
    obtain ⟨oc, od, dt, osl⟩ := o
    rw [q] at c2 e
    cases dt with
    | func fd =>
      obtain ⟨n1, n2, n3, n4, n5, n6, n7, n8, n9, n10, n11, n12, n13, n14, n15⟩ := fd
      have e2 : (some (n1, n2, n3, n4, n5, n6, n7, n15) : He.FnW) = some (d.name, d.qual, d.params, .stmts d.body, d.scope, mainGlobals, [], builtinsNs) := e
      simp only [Option.some.injEq, Prod.mk.injEq] at e2
      obtain ⟨h1, h2, h3, h4, h5, h6, h7, h8⟩ := e2
      subst h1 h2 h3 h4 h5 h6 h7 h8
      have c3 : (PySem.W.codeIn K n13 d.qual && (He.dflB K n8 (d.dvs K) && He.kwdB K n9 (d.kws K))) = true := c2
      obtain ⟨k1, k2⟩ := He.ba c3
      obtain ⟨k3, k4⟩ := He.ba k2
      exact ⟨_, ⟨oc, od, n8, n9, n10, n11, n12, n13, n14, osl, rfl, q, k1, He.dflB_ok k3, He.kwdB_ok k4⟩, kp⟩
    | _ => cases c2
/-- the tables of the defs with lambdas are apart -/
def distB (K : PySem.W.Frag) (l : List He.Defn) : Bool := decide ((l.map fun p => (He.cT K p).2).Nodup)
/-! ### the Hook -/
def isL (o : Obj) : Bool := match o.cls with
  | .type t => decide (t = "list")
  | _ => false
/-- what is looked at, without lists -/
def frZ (g : Addr → Option Obj) (as : List Addr) : PySem.W.Frag := (He.frT g as).filter fun q => !isL q.2
theorem look_filter {f : Addr × Obj → Bool} {a : Addr} : ∀ {l : List (Addr × Obj)}, l.lookup a = none → (l.filter f).lookup a = none
  | [], _ => rfl
  | (b, o) :: l, h => by
    have h2 : (match a == b with | true => some o | false => l.lookup a) = none := h
    cases q : (a == b) with
    | true => rw [q] at h2; cases h2
    | false =>
      rw [q] at h2
      rw [List.filter_cons]
      split
      · show (match a == b with | true => some o | false => (l.filter f).lookup a) = none
        rw [q]
        exact look_filter h2
      · exact look_filter h2
theorem frZ_in {as : List Addr} {h : Heap} : (frZ h.get? as).In h := fun a o e => by
  have m := List.mem_filter.mp (He.lookup_mem e)
  have m2 := List.mem_filter.mp m.1
  exact He.frG_mem m2.1
theorem frZ_nol {as : List Addr} {g : Addr → Option Obj} {a : Addr} {o : Obj} (e : (frZ g as).lookup a = some o) : isL o = false := by
  have m := (List.mem_filter.mp (He.lookup_mem e)).2
  simpa using m
section
variable (fa : List He.Fa) (fn : List He.DefD) (ts : List He.Tab) (tf : List He.Defn) (ex : PySem.W.Frag → List Bool) (ps : List (Str × Str × He.DefD))
abbrev AlK : Type := He.AlX × List He.FnW
def obsZ (g : Addr → Option Obj) (K : PySem.W.Frag) : AlK := ((He.obsT fa fn ts K, (ex K).all id && He.tabsB g tf K), ps.map fun p => fnWA K (gAd K p.1 p.2.1))
def obsK (n : Nat) (g : Addr → Option Obj) : AlK := obsZ fa fn ts tf ex ps g (frZ g (He.asD g n))
def valK (w : World) : AlK := (He.valX fn ts w, ps.map fun p => p.2.2.val)
structure SaysK (w : World) (h : Heap) (K : PySem.W.Frag) : Prop where
  x : He.SaysX fa fn ts tf (fun K => (ex K).all id) w h K
  p : (ps.map fun p => fnWA K (gAd K p.1 p.2.1)) = ps.map fun p => p.2.2.val
  nol : ∀ a o, K.lookup a = some o → isL o = false
theorem saysK_of {n : Nat} {w : World} {h : Heap} (e : obsK fa fn ts tf ex ps n h.get? = valK fn ts ps w) : SaysK fa fn ts tf ex ps w h (frZ h.get? (He.asD h.get? n)) := by
  have e1 : He.obsT fa fn ts (frZ h.get? (He.asD h.get? n)) = He.valT fn ts w := congrArg (fun z : AlK => z.1.1) e
  have e2 : ((ex (frZ h.get? (He.asD h.get? n))).all id && He.tabsB h.get? tf (frZ h.get? (He.asD h.get? n))) = true := congrArg (fun z : AlK => z.1.2) e
  have e3 := congrArg (fun z : AlK => z.2) e
  obtain ⟨h1, h2⟩ := He.ba e2
  have key : ∀ p ∈ tf, PySem.W.codeHdIn (frZ h.get? (He.asD h.get? n)) (He.cT (frZ h.get? (He.asD h.get? n)) p).1 (He.cT (frZ h.get? (He.asD h.get? n)) p).2 = true ∧ ∃ o, h.get? (He.cT (frZ h.get? (He.asD h.get? n)) p).2 = some o ∧ He.emptyTab o = true := fun p hp => by
    obtain ⟨h3, h4⟩ := He.ba (List.all_eq_true.mp h2 p hp)
    refine ⟨h3, ?_⟩
    cases q : h.get? (He.cT (frZ h.get? (He.asD h.get? n)) p).2 with
    | none =>
      rw [q] at h4
      cases h4
    | some o =>
      rw [q] at h4
      exact ⟨o, rfl, h4⟩
  exact ⟨⟨e1, h1, fun p hp => (key p hp).1, fun p hp => by
    obtain ⟨_, o, q, z⟩ := key p hp
    exact look_filter (He.frT_none q z), fun p hp => by
    obtain ⟨_, o, q, z⟩ := key p hp
    rw [q, He.emptyTab_eq z]⟩, e3, fun a o e => frZ_nol e⟩
def hookK (n : Nat) : PySem.W.Hook where
  α := AlK
  obs := fun s => obsK fa fn ts tf ex ps n s.heap.get?
  val := fun w => valK fn ts ps w
  says := fun w h => ∃ K : PySem.W.Frag, K.In h ∧ SaysK fa fn ts tf ex ps w h K
  of := fun _ _ e => ⟨_, frZ_in, saysK_of fa fn ts tf ex ps e⟩
  keeps := fun _ _ _ ⟨K, hK, c⟩ k => ⟨K, PySem.W.Frag.In.keeps hK k, ⟨c.x.t, c.x.more, c.x.hd, c.x.out, fun p hp => k _ _ (c.x.empty p hp)⟩, c.p, c.nol⟩
end
section
variable {fa : List He.Fa} {fn : List He.DefD} {ts : List He.Tab} {tf : List He.Defn} {ex : PySem.W.Frag → List Bool} {ps : List (Str × Str × He.DefD)} {w : World} {h : Heap} {K : PySem.W.Frag}
theorem obsK_eq {n : Nat} {g : Addr → Option Obj} {s : Shared} (e : ∀ a, g a = s.heap.get? a) : obsK fa fn ts tf ex ps n g = (hookK fa fn ts tf ex ps n).obs s := by
  have e : g = s.heap.get? := funext e
  rw [e] <;> rfl
theorem SaysK.ex_ (c : SaysK fa fn ts tf ex ps w h K) (i : Nat) {b : Bool} (e : (ex K)[i]? = some b) : b = true := by
  have h := c.x.more
  exact List.all_eq_true.mp h b (List.mem_of_getElem? e)
theorem SaysK.prop (c : SaysK fa fn ts tf ex ps w h K) (i : Nat) {a m : Str} {d : He.DefD} (e : ps[i]? = some (a, m, d)) (ok : okA K (gAd K a m) d = true) : ∃ fd, FunD K d.name d.qual d.params d.body d.scope (d.dvs K) (d.kws K) (gAd K a m) fd := by
  have e2 : (ps.map fun p => fnWA K (gAd K p.1 p.2.1))[i]? = (ps.map fun p => p.2.2.val)[i]? := by rw [c.p]
  rw [List.getElem?_map, List.getElem?_map, e] at e2
  exact funA (Option.some.inj e2) ok
end
/-! ### the parts of the structure that hang together -/
theorem look_mem {α β : Type} [BEq α] [LawfulBEq α] {a : α} {b : β} : ∀ {l : List (α × β)}, l.lookup a = some b → (a, b) ∈ l
  | [], h => by cases h
  | (c, d) :: l, h => by
    have h2 : (match a == c with | true => some d | false => l.lookup a) = some b := h
    cases q : (a == c) with
    | true => rw [q] at h2; cases h2; rw [beq_iff_eq.mp q]; exact List.mem_cons_self
    | false => rw [q] at h2; exact List.mem_cons_of_mem _ (look_mem h2)
theorem errTxt_of {K : PySem.W.Frag} {h : Heap} {mg : Str → Option Value} {p1 p2 q1 q2 q3 q4 : Pos} (KX : K.In h) (G : h.Ns mainGlobals mg) (hc : excB K (He.ga K "TooMany") = true) (he : errB K (He.ga K "TooMany") = true)
    (h1 : (He.Fa.glo "TooMany").ok K = true) (h2 : (He.Fa.noat "TooMany" "number").ok K = true) (h3 : (He.Fa.meth "TooMany" "__init__").ok K = true) (h4 : (He.Fa.keep "TooMany").ok K = true) (h5 : (He.Fa.exm "TooMany" "TooMany" true).ok K = true)
    (hf : ∃ fd, FunD K "__init__" "TooMany.__init__" (PySem.ErrX.iA p1 p2) (PySem.ErrX.iB q1 q2 q3 q4) PySem.ErrX.iS [] [] (He.ma K (He.ga K "TooMany") "__init__") fd) : PySem.ErrX.ErrTxt K mg (He.ga K "TooMany") (He.ma K (He.ga K "TooMany") "__init__") := by
  unfold errB at he
  obtain ⟨e1, he⟩ := He.ba he
  obtain ⟨e2, he⟩ := He.ba he
  obtain ⟨e3, he⟩ := He.ba he
  obtain ⟨e4, he⟩ := He.ba he
  obtain ⟨e5, he⟩ := He.ba he
  obtain ⟨e6, e7⟩ := He.ba he
  obtain ⟨fd, F⟩ := hf
  obtain ⟨oc, od, dV, kV, doc, pm, an, cdv, ct, osl, rfl, lk, hcd, hD, hK⟩ := F.ex
  rcases hD with ⟨_, rfl⟩ | ⟨z, _⟩
  · exact ⟨He.glo_ok KX G h1, excB_ok hc, He.eqO_ok e1, He.eqO_ok e2, He.eqO_ok e3, He.noat_ok h2, (He.meth_ok h3).at_, of_decide_eq_true e4, He.keep_ok h4, of_decide_eq_true e5, of_decide_eq_true e6, e7, He.exm_ok h5, oc, od, kV, doc, pm, an, cdv, ct, osl, p1, p2, q1, q2, q3, q4, lk, hcd⟩
  · exact absurd rfl z
theorem lamF_of {K : PySem.W.Frag} {base : Heap} {mg : Str → Option Value} {ca : CA} {p : He.Defn} {x qual : Str} {params : Arguments} {body : List Stmt} {scope : Scope} {dvs : List V} {kws : List (Str × V)} {fd : FuncData}
    (F : FunD K x qual params body scope dvs kws (He.fAd K p) fd) (hT : LamX.TabB base mg (He.cT K p).1 (He.cT K p).2) (hm : ((He.cT K p).2, (qual ++ ".<locals>.") ++ "<lambda>") ∈ ca.T) (hu : ∀ q ∈ ca.T, q.1 = (He.cT K p).2 → q.2 = (qual ++ ".<locals>.") ++ "<lambda>") : LamF base mg ca qual fd := by
  obtain ⟨oc, od, dV, kV, doc, pm, an, cdv, ct, osl, rfl, lk, hcd, hD, hK⟩ := F.ex
  obtain ⟨c, rfl⟩ := He.codeIn_ref hcd
  have e : He.codeOf K p = c := He.codeOf_eq lk rfl
  refine ⟨_, _, hT, ?_, hm, hu⟩
  show Value.ref c = .ref (He.codeOf K p)
  rw [e]
end Kt

/-! k18: what the head is to show, printed by gen.py (own work). -/
namespace Kt
open PySem PySem.Spec PyProof.Rows L2 Mp
def fn : List He.DefD := ([⟨("is_integer", none), "is_integer", "is_integer", defArgs (topS 21), defBody (topS 21), defScope (topS 21), [], []⟩, ⟨("is_within", none), "is_within", "is_within", defArgs (topS 22), defBody (topS 22), defScope (topS 22), [], []⟩, ⟨("is_word", none), "is_word", "is_word", defArgs (topS 23), defBody (topS 23), defScope (topS 23), [], []⟩, ⟨("are_words", none), "are_words", "are_words", defArgs (topS 24), defBody (topS 24), defScope (topS 24), [], []⟩, ⟨("is_sign_part", none), "is_sign_part", "is_sign_part", defArgs (topS 25), defBody (topS 25), defScope (topS 25), [], []⟩, ⟨("is_row", none), "is_row", "is_row", defArgs (topS 26), defBody (topS 26), defScope (topS 26), [], []⟩, ⟨("sections_of", none), "sections_of", "sections_of", defArgs (topS 27), defBody (topS 27), defScope (topS 27), [], []⟩, ⟨("has_ring", none), "has_ring", "has_ring", defArgs (topS 28), defBody (topS 28), defScope (topS 28), [], []⟩, ⟨("Program", some "spots"), "spots", "Program.spots", defArgs (memS 29 1), defBody (memS 29 1), defScope (memS 29 1), [], []⟩, ⟨("Program", some "keep_rows"), "keep_rows", "Program.keep_rows", defArgs (memS 29 2), defBody (memS 29 2), defScope (memS 29 2), [], []⟩, ⟨("Program", some "is_served"), "is_served", "Program.is_served", defArgs (memS 29 3), defBody (memS 29 3), defScope (memS 29 3), [], []⟩, ⟨("Program", some "are_guards"), "are_guards", "Program.are_guards", defArgs (memS 29 5), defBody (memS 29 5), defScope (memS 29 5), [], []⟩, ⟨("Program", some "__init__"), "__init__", "Program.__init__", defArgs (memS 29 0), defBody (memS 29 0), defScope (memS 29 0), [.str "main", .non], []⟩, ⟨("Program", some "first_store"), "first_store", "Program.first_store", defArgs (memS 29 14), defBody (memS 29 14), defScope (memS 29 14), [], []⟩, ⟨("check_program", none), "check_program", "check_program", defArgs (topS 30), defBody (topS 30), defScope (topS 30), [], []⟩, ⟨("serving", none), "serving", "serving", defArgs (topS 32), defBody (topS 32), defScope (topS 32), [], []⟩, ⟨("callee_at", none), "callee_at", "callee_at", defArgs (topS 33), defBody (topS 33), defScope (topS 33), [], []⟩, ⟨("at_cell", none), "at_cell", "at_cell", defArgs (topS 34), defBody (topS 34), defScope (topS 34), [], []⟩, ⟨("put_in", none), "put_in", "put_in", defArgs (topS 36), defBody (topS 36), defScope (topS 36), [], []⟩, ⟨("changed_store", none), "changed_store", "changed_store", defArgs (topS 37), defBody (topS 37), defScope (topS 37), [], []⟩, ⟨("points_behind", none), "points_behind", "points_behind", defArgs (topS 39), defBody (topS 39), defScope (topS 39), [], []⟩, ⟨("row_ways", none), "row_ways", "row_ways", defArgs (topS 40), defBody (topS 40), defScope (topS 40), [], []⟩, ⟨("first_state", none), "first_state", "first_state", defArgs (topS 42), defBody (topS 42), defScope (topS 42), [], []⟩, ⟨("place_in", none), "place_in", "place_in", defArgs (topS 43), defBody (topS 43), defScope (topS 43), [], []⟩, ⟨("frames_in", none), "frames_in", "frames_in", defArgs (topS 44), defBody (topS 44), defScope (topS 44), [], []⟩] : List He.DefD) ++ ([⟨("is_resting", none), "is_resting", "is_resting", defArgs (topS 45), defBody (topS 45), defScope (topS 45), [], []⟩, ⟨("begin_line", none), "begin_line", "begin_line", defArgs (topS 46), defBody (topS 46), defScope (topS 46), [], []⟩, ⟨("come_back", none), "come_back", "come_back", defArgs (topS 47), defBody (topS 47), defScope (topS 47), [], []⟩, ⟨("with_frames", none), "with_frames", "with_frames", defArgs (topS 48), defBody (topS 48), defScope (topS 48), [], []⟩, ⟨("rows_behind", none), "rows_behind", "rows_behind", defArgs (topS 49), defBody (topS 49), defScope (topS 49), [], []⟩, ⟨("all_moves", none), "all_moves", "all_moves", defArgs (topS 50), defBody (topS 50), defScope (topS 50), [], []⟩, ⟨("state_behind", none), "state_behind", "state_behind", defArgs (topS 51), defBody (topS 51), defScope (topS 51), [], []⟩, ⟨("is_move", none), "is_move", "is_move", defArgs (topS 53), defBody (topS 53), defScope (topS 53), [], []⟩, ⟨("after_move", none), "after_move", "after_move", defArgs (topS 54), defBody (topS 54), defScope (topS 54), [], []⟩, ⟨("states_of", none), "states_of", "states_of", defArgs (topS 59), defBody (topS 59), defScope (topS 59), [], []⟩, ⟨("many_states", none), "many_states", "many_states", defArgs (topS 60), defBody (topS 60), defScope (topS 60), [], []⟩, ⟨("small_enough", none), "small_enough", "small_enough", defArgs (topS 61), defBody (topS 61), defScope (topS 61), [], []⟩, ⟨("Scripts", some "all_layers"), "all_layers", "Scripts.all_layers", defArgs (memS 62 1), defBody (memS 62 1), defScope (memS 62 1), [], []⟩, ⟨("Scripts", some "__init__"), "__init__", "Scripts.__init__", defArgs (memS 62 0), defBody (memS 62 0), defScope (memS 62 0), [], []⟩, ⟨("Scripts", some "end_of"), "end_of", "Scripts.end_of", defArgs (memS 62 5), defBody (memS 62 5), defScope (memS 62 5), [], []⟩, ⟨("Scripts", some "__contains__"), "__contains__", "Scripts.__contains__", defArgs (memS 62 4), defBody (memS 62 4), defScope (memS 62 4), [], []⟩, ⟨("Scripts", some "__getitem__"), "__getitem__", "Scripts.__getitem__", defArgs (memS 62 6), defBody (memS 62 6), defScope (memS 62 6), [], []⟩, ⟨("Scripts", some "number_of"), "number_of", "Scripts.number_of", defArgs (memS 62 8), defBody (memS 62 8), defScope (memS 62 8), [], []⟩, ⟨("_law_numbers", none), "_law_numbers", "_law_numbers", defArgs (topS 64), defBody (topS 64), defScope (topS 64), [], []⟩, ⟨("_law_pool", none), "_law_pool", "_law_pool", defArgs (topS 65), defBody (topS 65), defScope (topS 65), [], []⟩, ⟨("_law_draw", none), "_law_draw", "_law_draw", defArgs (topS 66), defBody (topS 66), defScope (topS 66), [], []⟩, ⟨("_law_opened", none), "_law_opened", "_law_opened", defArgs (topS 67), defBody (topS 67), defScope (topS 67), [], []⟩, ⟨("_law_endless", none), "_law_endless", "_law_endless", defArgs (topS 68), defBody (topS 68), defScope (topS 68), [], []⟩, ⟨("_law_tower", none), "_law_tower", "_law_tower", defArgs (topS 69), defBody (topS 69), defScope (topS 69), [], []⟩, ⟨("_law_sum", none), "_law_sum", "_law_sum", defArgs (topS 70), defBody (topS 70), defScope (topS 70), [], []⟩] : List He.DefD) ++ ([⟨("_law_told", none), "_law_told", "_law_told", defArgs (topS 71), defBody (topS 71), defScope (topS 71), [], []⟩, ⟨("_law_great", none), "_law_great", "_law_great", defArgs (topS 72), defBody (topS 72), defScope (topS 72), [], []⟩, ⟨("law", none), "law", "law", defArgs (topS 73), defBody (topS 73), defScope (topS 73), [], []⟩, ⟨("TooMany", some "__init__"), "__init__", "TooMany.__init__", defArgs (memS 8 0), defBody (memS 8 0), defScope (memS 8 0), [], []⟩] : List He.DefD)
def dp0 : He.DefD := ⟨("Program", some "levels"), "levels", "Program.levels", defArgs (memS 29 6), defBody (memS 29 6), defScope (memS 29 6), [], []⟩
def dp1 : He.DefD := ⟨("Program", some "size"), "size", "Program.size", defArgs (memS 29 7), defBody (memS 29 7), defScope (memS 29 7), [], []⟩
def dp2 : He.DefD := ⟨("Program", some "main"), "main", "Program.main", defArgs (memS 29 8), defBody (memS 29 8), defScope (memS 29 8), [], []⟩
def dp3 : He.DefD := ⟨("Scripts", some "amount"), "amount", "Scripts.amount", defArgs (memS 62 3), defBody (memS 62 3), defScope (memS 62 3), [], []⟩
def dp4 : He.DefD := ⟨("Scripts", some "length"), "length", "Scripts.length", defArgs (memS 62 2), defBody (memS 62 2), defScope (memS 62 2), [], []⟩
def dps : List (Str × Str × He.DefD) := [("Program", "levels", dp0), ("Program", "size", dp1), ("Program", "main", dp2), ("Scripts", "amount", dp3), ("Scripts", "length", dp4)]
def fal : List He.Fa := ([.glo "is_integer", .glo "is_word", .glo "is_within", .glo "is_sign_part", .glo "is_row", .glo "are_words", .glo "has_ring", .glo "sections_of", .glo "Program", .glo "put_in", .glo "at_cell", .glo "points_behind", .glo "changed_store", .glo "frames_in", .glo "row_ways", .glo "with_frames", .glo "callee_at", .glo "come_back", .glo "place_in", .glo "rows_behind", .glo "is_resting", .glo "serving", .glo "begin_line", .glo "all_moves", .glo "is_move"] : List He.Fa) ++ ([.glo "state_behind", .glo "first_state", .glo "check_program", .glo "states_of", .glo "small_enough", .glo "after_move", .glo "_law_numbers", .glo "_law_pool", .glo "Scripts", .glo "many_states", .glo "_law_tower", .glo "_law_great", .glo "_law_told", .glo "_law_draw", .glo "_law_sum", .glo "_law_endless", .glo "_law_opened", .glo "law", .glo "TooMany", .glo "FORMS", .free "isinstance", .free "int", .free "bool", .free "all", .free "str"] : List He.Fa) ++ ([.free "len", .free "dict", .free "zip", .free "tuple", .free "sorted", .free "any", .free "range", .free "list", .free "sum", .free "enumerate", .free "max", .free "min", .int "MOST_LETTERS" 8, .int "MOST_ROWS" 24, .int "MOST_LINES" 6, .int "MOST_SECTIONS" 3, .int "MOST_PROCEDURES" 12, .int "MOST_STORES" 256, .int "MOST_CELLS" 6, .int "MOST_VALUES" 6, .int "MOST_LEVELS" 4, .int "MOST_STATES" 20000, .int "MOST_COUNTS" 200000, .int "MOST_MOVES" 1000, .str "LETTERS" "abcdefghijklmnopqrstuvwxyz"] : List He.Fa) ++ ([.cls "Program", .cls "Scripts", .mkr "Program", .mkr "Scripts", .noat "Program" "own_levels", .noat "Program" "own_size", .noat "Program" "own_main", .noat "Program" "lists", .noat "Program" "firsts", .noat "Program" "own_guards", .noat "Program" "own_lines", .noat "Program" "own_sections", .noat "Scripts" "own_moves", .noat "Scripts" "layers", .noat "Scripts" "own_first", .noat "Scripts" "own_program", .meth "Program" "spots", .meth "Program" "are_guards", .meth "Program" "is_served", .meth "Program" "keep_rows", .meth "Program" "first_store", .meth "Scripts" "all_layers", .meth "Scripts" "end_of", .meth "Scripts" "number_of", .exm "TooMany" "TooMany" true] : List He.Fa) ++ ([.keep "TooMany", .noat "TooMany" "number", .meth "TooMany" "__init__"] : List He.Fa)
def lamL : List He.Defn := [("sections_of", none), ("Program", some "keep_rows"), ("Program", some "__init__")]
def tabL : List He.Tab := [(fun K => He.ga K "FORMS", ["set", "copy", "add", "any", "look", "if", "go", "either", "call", "raise", "mask", "save", "load", "keep", "give", "open", "close"])]
def loose : List PySem.Str := (["_wall", "__name__", "LevelError", "BadArgument", "BadProgram", "BadProcedure", "BadScript", "BadNumber", "TooMany", "LETTERS", "MOST_LETTERS", "MOST_LEVELS", "MOST_VALUES", "MOST_CELLS", "MOST_STORES", "MOST_PROCEDURES", "MOST_ROWS", "MOST_LINES", "MOST_SECTIONS", "FORMS", "is_integer", "is_within", "is_word", "are_words", "is_sign_part"] : List PySem.Str) ++ (["is_row", "sections_of", "has_ring", "Program", "check_program", "serving", "callee_at", "at_cell", "at_section", "put_in", "changed_store", "masked_by", "points_behind", "row_ways", "first_state", "place_in", "frames_in", "is_resting", "begin_line", "come_back", "with_frames", "rows_behind", "all_moves", "state_behind", "is_move"] : List PySem.Str) ++ (["after_move", "MOST_STATES", "MOST_MOVES", "MOST_COUNTS", "states_of", "many_states", "small_enough", "Scripts", "_law_numbers", "_law_pool", "_law_draw", "_law_opened", "_law_endless", "_law_tower", "_law_sum", "_law_told", "_law_great"] : List PySem.Str)
def lawI : Nat := 73
def faL (K : PySem.W.Frag) : List Addr := ([He.fAd K ("is_integer", none), He.fAd K ("is_within", none), He.fAd K ("is_word", none), He.fAd K ("are_words", none), gAd K "Program" "levels", gAd K "Program" "size", gAd K "Program" "main", He.fAd K ("is_sign_part", none), He.fAd K ("is_row", none), He.fAd K ("sections_of", none), He.fAd K ("has_ring", none), He.fAd K ("Program", some "spots"), He.fAd K ("Program", some "keep_rows"), He.fAd K ("Program", some "is_served"), He.fAd K ("Program", some "are_guards"), He.fAd K ("Program", some "__init__"), He.fAd K ("Program", some "first_store"), He.fAd K ("check_program", none), He.fAd K ("serving", none), He.fAd K ("callee_at", none), He.fAd K ("at_cell", none), He.fAd K ("put_in", none), He.fAd K ("changed_store", none), He.fAd K ("points_behind", none), He.fAd K ("row_ways", none)] : List Addr) ++ ([He.fAd K ("first_state", none), He.fAd K ("place_in", none), He.fAd K ("frames_in", none), He.fAd K ("is_resting", none), He.fAd K ("begin_line", none), He.fAd K ("come_back", none), He.fAd K ("with_frames", none), He.fAd K ("rows_behind", none), He.fAd K ("all_moves", none), He.fAd K ("state_behind", none), He.fAd K ("is_move", none), He.fAd K ("after_move", none), He.fAd K ("states_of", none), He.fAd K ("many_states", none), He.fAd K ("small_enough", none), He.fAd K ("Scripts", some "all_layers"), He.fAd K ("Scripts", some "__init__"), gAd K "Scripts" "length", gAd K "Scripts" "amount", He.fAd K ("Scripts", some "end_of"), He.fAd K ("Scripts", some "__contains__"), He.fAd K ("Scripts", some "__getitem__"), He.fAd K ("Scripts", some "number_of"), He.fAd K ("_law_numbers", none), He.fAd K ("_law_pool", none)] : List Addr) ++ ([He.fAd K ("_law_draw", none), He.fAd K ("_law_opened", none), He.fAd K ("_law_endless", none), He.fAd K ("_law_tower", none), He.fAd K ("_law_sum", none), He.fAd K ("_law_told", none), He.fAd K ("_law_great", none), He.fAd K ("law", none), He.fAd K ("TooMany", some "__init__")] : List Addr)
def faK (K : PySem.W.Frag) (n : Nat) : Addr := (faL K).getD n 0
def paL (K : PySem.W.Frag) : List Addr := [pAd K "Program" "levels", pAd K "Program" "size", pAd K "Program" "main", pAd K "Scripts" "amount", pAd K "Scripts" "length"]
def paK (K : PySem.W.Frag) (n : Nat) : Addr := (paL K).getD n 0
def caK (K : PySem.W.Frag) : CA := ⟨fun s => He.ga K (Str.ofString s), [((He.cT K ("sections_of", none)).2, "sections_of.<locals>." ++ "<lambda>"), ((He.cT K ("Program", some "keep_rows")).2, "Program.keep_rows.<locals>." ++ "<lambda>"), ((He.cT K ("Program", some "__init__")).2, "Program.__init__.<locals>." ++ "<lambda>")]⟩
def exL (K : PySem.W.Frag) : List Bool := ([insB K "Program", propB K "Program" "levels", propB K "Program" "size", propB K "Program" "main", propB K "Scripts" "amount", propB K "Scripts" "length", dunB K "Scripts" "__contains__", dunB K "Scripts" "__getitem__", excB K (He.ga K "TooMany"), errB K (He.ga K "TooMany"), ntxB K "go" "r", ntxB K "any" "c", ntxB K "look" "c", okA K (gAd K "Program" "levels") dp0, okA K (gAd K "Program" "size") dp1, okA K (gAd K "Program" "main") dp2, okA K (gAd K "Scripts" "amount") dp3, okA K (gAd K "Scripts" "length") dp4, distB K lamL] : List Bool)
end Kt

/-! k18: the head's facts, as the structure that the defs ask, printed by gen.py (own work). -/
namespace Kt
open PySem PySem.Spec PyProof.Rows L2 Mp
theorem uq0 {K : PySem.W.Frag} (h : distB K lamL = true) : ∀ q ∈ (caK K).T, q.1 = (He.cT K ("sections_of", none)).2 → q.2 = ("sections_of" ++ ".<locals>.") ++ "<lambda>" := fun q hq e => by
  have n : ((lamL.map fun p => (He.cT K p).2)).Nodup := of_decide_eq_true h
  simp only [lamL, List.map_cons, List.map_nil, List.nodup_cons, List.mem_cons, List.not_mem_nil, or_false, not_or, not_false_eq_true, List.nodup_nil, and_true] at n
  obtain ⟨⟨n1, n2⟩, n3⟩ := n
  simp only [caK, List.mem_cons, List.not_mem_nil, or_false] at hq
  rcases hq with rfl | rfl | rfl
  · rfl
  · exact absurd e (Ne.symm n1)
  · exact absurd e (Ne.symm n2)
theorem uq1 {K : PySem.W.Frag} (h : distB K lamL = true) : ∀ q ∈ (caK K).T, q.1 = (He.cT K ("Program", some "keep_rows")).2 → q.2 = ("Program.keep_rows" ++ ".<locals>.") ++ "<lambda>" := fun q hq e => by
  have n : ((lamL.map fun p => (He.cT K p).2)).Nodup := of_decide_eq_true h
  simp only [lamL, List.map_cons, List.map_nil, List.nodup_cons, List.mem_cons, List.not_mem_nil, or_false, not_or, not_false_eq_true, List.nodup_nil, and_true] at n
  obtain ⟨⟨n1, n2⟩, n3⟩ := n
  simp only [caK, List.mem_cons, List.not_mem_nil, or_false] at hq
  rcases hq with rfl | rfl | rfl
  · exact absurd e n1
  · rfl
  · exact absurd e (Ne.symm n3)
theorem uq2 {K : PySem.W.Frag} (h : distB K lamL = true) : ∀ q ∈ (caK K).T, q.1 = (He.cT K ("Program", some "__init__")).2 → q.2 = ("Program.__init__" ++ ".<locals>.") ++ "<lambda>" := fun q hq e => by
  have n : ((lamL.map fun p => (He.cT K p).2)).Nodup := of_decide_eq_true h
  simp only [lamL, List.map_cons, List.map_nil, List.nodup_cons, List.mem_cons, List.not_mem_nil, or_false, not_or, not_false_eq_true, List.nodup_nil, and_true] at n
  obtain ⟨⟨n1, n2⟩, n3⟩ := n
  simp only [caK, List.mem_cons, List.not_mem_nil, or_false] at hq
  rcases hq with rfl | rfl | rfl
  · exact absurd e n2
  · exact absurd e n3
  · rfl
theorem tx_of {K : PySem.W.Frag} {h h0 base : Heap} {mg : Str → Option Value} {w : World} {P : PySem.Program} (KX : K.In h) (G : h.Ns mainGlobals mg) (c : SaysK fal fn tabL lamL exL dps w h0 K) (hT : ∀ p ∈ lamL, LamX.TabB base mg (He.cT K p).1 (He.cT K p).2) : Tx P w K mg base (caK K) (faK K) (paK K) :=
  have T0 : He.SaysD fal fn K := c.x.t.d
  { f_is_integer := by
        obtain ⟨fd, F⟩ := T0.def_ 0 rfl
        have B : Binds K fd ["value"] [] := F.bindsN fun _ _ _ _ _ _ us hl => match us, hl with | [_], _ => rfl
        exact ⟨fd, [], F, B, .nil⟩
    f_is_within := by
        obtain ⟨fd, F⟩ := T0.def_ 1 rfl
        have B : Binds K fd ["value", "least", "most"] [] := F.bindsN fun _ _ _ _ _ _ us hl => match us, hl with | [_, _, _], _ => rfl
        exact ⟨fd, [], F, B, .nil⟩
    f_is_word := by
        obtain ⟨fd, F⟩ := T0.def_ 2 rfl
        have B : Binds K fd ["value"] [] := F.bindsN fun _ _ _ _ _ _ us hl => match us, hl with | [_], _ => rfl
        exact ⟨fd, [], F, B, .nil⟩
    f_are_words := by
        obtain ⟨fd, F⟩ := T0.def_ 3 rfl
        have B : Binds K fd ["value", "least", "most"] [] := F.bindsN fun _ _ _ _ _ _ us hl => match us, hl with | [_, _, _], _ => rfl
        exact ⟨fd, [], F, B, .nil⟩
    f_Program_levels := by
        obtain ⟨fd, F⟩ := c.prop 0 (a := "Program") (m := "levels") (d := dp0) rfl (c.ex_ 13 rfl)
        have B : Binds K fd ["self"] [] := F.bindsN fun _ _ _ _ _ _ us hl => match us, hl with | [_], _ => rfl
        exact ⟨fd, [], F, B, .nil⟩
    f_Program_size := by
        obtain ⟨fd, F⟩ := c.prop 1 (a := "Program") (m := "size") (d := dp1) rfl (c.ex_ 14 rfl)
        have B : Binds K fd ["self"] [] := F.bindsN fun _ _ _ _ _ _ us hl => match us, hl with | [_], _ => rfl
        exact ⟨fd, [], F, B, .nil⟩
    f_Program_main := by
        obtain ⟨fd, F⟩ := c.prop 2 (a := "Program") (m := "main") (d := dp2) rfl (c.ex_ 15 rfl)
        have B : Binds K fd ["self"] [] := F.bindsN fun _ _ _ _ _ _ us hl => match us, hl with | [_], _ => rfl
        exact ⟨fd, [], F, B, .nil⟩
    f_is_sign_part := by
        obtain ⟨fd, F⟩ := T0.def_ 4 rfl
        have B : Binds K fd ["program", "sign", "value", "many"] [] := F.bindsN fun _ _ _ _ _ _ us hl => match us, hl with | [_, _, _, _], _ => rfl
        exact ⟨fd, [], F, B, .nil⟩
    f_is_row := by
        obtain ⟨fd, F⟩ := T0.def_ 5 rfl
        have B : Binds K fd ["program", "value", "many"] [] := F.bindsN fun _ _ _ _ _ _ us hl => match us, hl with | [_, _, _], _ => rfl
        exact ⟨fd, [], F, B, .nil⟩
    f_sections_of := by
        obtain ⟨fd, F⟩ := T0.def_ 6 rfl
        have B : Binds K fd ["lists"] [] := F.bindsN fun _ _ _ _ _ _ us hl => match us, hl with | [_], _ => rfl
        exact ⟨fd, [], F, B, .nil, lamF_of F (hT ("sections_of", none) (List.mem_of_getElem? (i := 0) rfl)) (List.mem_of_getElem? (i := 0) rfl) (uq0 (c.ex_ 18 rfl))⟩
    f_has_ring := by
        obtain ⟨fd, F⟩ := T0.def_ 7 rfl
        have B : Binds K fd ["lists"] [] := F.bindsN fun _ _ _ _ _ _ us hl => match us, hl with | [_], _ => rfl
        exact ⟨fd, [], F, B, .nil⟩
    f_Program_spots := by
        obtain ⟨fd, F⟩ := T0.def_ 8 rfl
        have B : Binds K fd ["self"] [] := F.bindsN fun _ _ _ _ _ _ us hl => match us, hl with | [_], _ => rfl
        exact ⟨fd, [], F, B, .nil⟩
    f_Program_keep_rows := by
        obtain ⟨fd, F⟩ := T0.def_ 9 rfl
        have B : Binds K fd ["self", "procedures"] [] := F.bindsN fun _ _ _ _ _ _ us hl => match us, hl with | [_, _], _ => rfl
        exact ⟨fd, [], F, B, .nil, lamF_of F (hT ("Program", some "keep_rows") (List.mem_of_getElem? (i := 1) rfl)) (List.mem_of_getElem? (i := 1) rfl) (uq1 (c.ex_ 18 rfl))⟩
    f_Program_is_served := by
        obtain ⟨fd, F⟩ := T0.def_ 10 rfl
        have B : Binds K fd ["self", "value"] [] := F.bindsN fun _ _ _ _ _ _ us hl => match us, hl with | [_, _], _ => rfl
        exact ⟨fd, [], F, B, .nil⟩
    f_Program_are_guards := by
        obtain ⟨fd, F⟩ := T0.def_ 11 rfl
        have B : Binds K fd ["self", "value"] [] := F.bindsN fun _ _ _ _ _ _ us hl => match us, hl with | [_, _], _ => rfl
        exact ⟨fd, [], F, B, .nil⟩
    f_Program___init__ := by
        obtain ⟨fd, F⟩ := T0.def_ 12 rfl
        obtain ⟨ds, Vd, B⟩ := F.binds1 (ps := ["self", "levels", "size", "start", "procedures", "lines", "main", "guards"]) 6 0 (List.cons_ne_nil _ _) rfl (fun T kV doc pm an cdv ct us its h1 h2 => match us, its, h1, h2 with | [_, _, _, _, _, _], [_, _], _, _ => ⟨_, rfl, rfl⟩)
        exact ⟨fd, ds, F, B, Vd, lamF_of F (hT ("Program", some "__init__") (List.mem_of_getElem? (i := 2) rfl)) (List.mem_of_getElem? (i := 2) rfl) (uq2 (c.ex_ 18 rfl))⟩
    f_Program_first_store := by
        obtain ⟨fd, F⟩ := T0.def_ 13 rfl
        have B : Binds K fd ["self"] [] := F.bindsN fun _ _ _ _ _ _ us hl => match us, hl with | [_], _ => rfl
        exact ⟨fd, [], F, B, .nil⟩
    f_check_program := by
        obtain ⟨fd, F⟩ := T0.def_ 14 rfl
        have B : Binds K fd ["program"] [] := F.bindsN fun _ _ _ _ _ _ us hl => match us, hl with | [_], _ => rfl
        exact ⟨fd, [], F, B, .nil⟩
    f_serving := by
        obtain ⟨fd, F⟩ := T0.def_ 15 rfl
        have B : Binds K fd ["program", "procedure", "point", "mask"] [] := F.bindsN fun _ _ _ _ _ _ us hl => match us, hl with | [_, _, _, _], _ => rfl
        exact ⟨fd, [], F, B, .nil⟩
    f_callee_at := by
        obtain ⟨fd, F⟩ := T0.def_ 16 rfl
        have B : Binds K fd ["program", "procedure", "point"] [] := F.bindsN fun _ _ _ _ _ _ us hl => match us, hl with | [_, _, _], _ => rfl
        exact ⟨fd, [], F, B, .nil⟩
    f_at_cell := by
        obtain ⟨fd, F⟩ := T0.def_ 17 rfl
        have B : Binds K fd ["program", "cell"] [] := F.bindsN fun _ _ _ _ _ _ us hl => match us, hl with | [_, _], _ => rfl
        exact ⟨fd, [], F, B, .nil⟩
    f_put_in := by
        obtain ⟨fd, F⟩ := T0.def_ 18 rfl
        have B : Binds K fd ["store", "place", "value"] [] := F.bindsN fun _ _ _ _ _ _ us hl => match us, hl with | [_, _, _], _ => rfl
        exact ⟨fd, [], F, B, .nil⟩
    f_changed_store := by
        obtain ⟨fd, F⟩ := T0.def_ 19 rfl
        have B : Binds K fd ["program", "row", "store"] [] := F.bindsN fun _ _ _ _ _ _ us hl => match us, hl with | [_, _, _], _ => rfl
        exact ⟨fd, [], F, B, .nil⟩
    f_points_behind := by
        obtain ⟨fd, F⟩ := T0.def_ 20 rfl
        have B : Binds K fd ["program", "row", "point", "store"] [] := F.bindsN fun _ _ _ _ _ _ us hl => match us, hl with | [_, _, _, _], _ => rfl
        exact ⟨fd, [], F, B, .nil⟩
    f_row_ways := by
        obtain ⟨fd, F⟩ := T0.def_ 21 rfl
        have B : Binds K fd ["program", "procedure", "point", "kept", "store", "mask", "floor"] [] := F.bindsN fun _ _ _ _ _ _ us hl => match us, hl with | [_, _, _, _, _, _, _], _ => rfl
        exact ⟨fd, [], F, B, .nil⟩
    f_first_state := by
        obtain ⟨fd, F⟩ := T0.def_ 22 rfl
        have B : Binds K fd ["program"] [] := F.bindsN fun _ _ _ _ _ _ us hl => match us, hl with | [_], _ => rfl
        exact ⟨fd, [], F, B, .nil⟩
    f_place_in := by
        obtain ⟨fd, F⟩ := T0.def_ 23 rfl
        have B : Binds K fd ["state"] [] := F.bindsN fun _ _ _ _ _ _ us hl => match us, hl with | [_], _ => rfl
        exact ⟨fd, [], F, B, .nil⟩
    f_frames_in := by
        obtain ⟨fd, F⟩ := T0.def_ 24 rfl
        have B : Binds K fd ["state"] [] := F.bindsN fun _ _ _ _ _ _ us hl => match us, hl with | [_], _ => rfl
        exact ⟨fd, [], F, B, .nil⟩
    f_is_resting := by
        obtain ⟨fd, F⟩ := T0.def_ 25 rfl
        have B : Binds K fd ["program", "state"] [] := F.bindsN fun _ _ _ _ _ _ us hl => match us, hl with | [_, _], _ => rfl
        exact ⟨fd, [], F, B, .nil⟩
    f_begin_line := by
        obtain ⟨fd, F⟩ := T0.def_ 26 rfl
        have B : Binds K fd ["program", "state", "line"] [] := F.bindsN fun _ _ _ _ _ _ us hl => match us, hl with | [_, _, _], _ => rfl
        exact ⟨fd, [], F, B, .nil⟩
    f_come_back := by
        obtain ⟨fd, F⟩ := T0.def_ 27 rfl
        have B : Binds K fd ["state"] [] := F.bindsN fun _ _ _ _ _ _ us hl => match us, hl with | [_], _ => rfl
        exact ⟨fd, [], F, B, .nil⟩
    f_with_frames := by
        obtain ⟨fd, F⟩ := T0.def_ 28 rfl
        have B : Binds K fd ["state", "store", "mask", "frames"] [] := F.bindsN fun _ _ _ _ _ _ us hl => match us, hl with | [_, _, _, _], _ => rfl
        exact ⟨fd, [], F, B, .nil⟩
    f_rows_behind := by
        obtain ⟨fd, F⟩ := T0.def_ 29 rfl
        have B : Binds K fd ["program", "state"] [] := F.bindsN fun _ _ _ _ _ _ us hl => match us, hl with | [_, _], _ => rfl
        exact ⟨fd, [], F, B, .nil⟩
    f_all_moves := by
        obtain ⟨fd, F⟩ := T0.def_ 30 rfl
        have B : Binds K fd ["program", "state"] [] := F.bindsN fun _ _ _ _ _ _ us hl => match us, hl with | [_, _], _ => rfl
        exact ⟨fd, [], F, B, .nil⟩
    f_state_behind := by
        obtain ⟨fd, F⟩ := T0.def_ 31 rfl
        have B : Binds K fd ["program", "state", "move"] [] := F.bindsN fun _ _ _ _ _ _ us hl => match us, hl with | [_, _, _], _ => rfl
        exact ⟨fd, [], F, B, .nil⟩
    f_is_move := by
        obtain ⟨fd, F⟩ := T0.def_ 32 rfl
        have B : Binds K fd ["value"] [] := F.bindsN fun _ _ _ _ _ _ us hl => match us, hl with | [_], _ => rfl
        exact ⟨fd, [], F, B, .nil⟩
    f_after_move := by
        obtain ⟨fd, F⟩ := T0.def_ 33 rfl
        have B : Binds K fd ["program", "state", "move"] [] := F.bindsN fun _ _ _ _ _ _ us hl => match us, hl with | [_, _, _], _ => rfl
        exact ⟨fd, [], F, B, .nil⟩
    f_states_of := by
        obtain ⟨fd, F⟩ := T0.def_ 34 rfl
        have B : Binds K fd ["program"] [] := F.bindsN fun _ _ _ _ _ _ us hl => match us, hl with | [_], _ => rfl
        exact ⟨fd, [], F, B, .nil⟩
    f_many_states := by
        obtain ⟨fd, F⟩ := T0.def_ 35 rfl
        have B : Binds K fd ["program"] [] := F.bindsN fun _ _ _ _ _ _ us hl => match us, hl with | [_], _ => rfl
        exact ⟨fd, [], F, B, .nil⟩
    f_small_enough := by
        obtain ⟨fd, F⟩ := T0.def_ 36 rfl
        have B : Binds K fd ["graph", "moves"] [] := F.bindsN fun _ _ _ _ _ _ us hl => match us, hl with | [_, _], _ => rfl
        exact ⟨fd, [], F, B, .nil⟩
    f_Scripts_all_layers := by
        obtain ⟨fd, F⟩ := T0.def_ 37 rfl
        have B : Binds K fd ["self", "graph"] [] := F.bindsN fun _ _ _ _ _ _ us hl => match us, hl with | [_, _], _ => rfl
        exact ⟨fd, [], F, B, .nil⟩
    f_Scripts___init__ := by
        obtain ⟨fd, F⟩ := T0.def_ 38 rfl
        have B : Binds K fd ["self", "program", "moves"] [] := F.bindsN fun _ _ _ _ _ _ us hl => match us, hl with | [_, _, _], _ => rfl
        exact ⟨fd, [], F, B, .nil⟩
    f_Scripts_length := by
        obtain ⟨fd, F⟩ := c.prop 4 (a := "Scripts") (m := "length") (d := dp4) rfl (c.ex_ 17 rfl)
        have B : Binds K fd ["self"] [] := F.bindsN fun _ _ _ _ _ _ us hl => match us, hl with | [_], _ => rfl
        exact ⟨fd, [], F, B, .nil⟩
    f_Scripts_amount := by
        obtain ⟨fd, F⟩ := c.prop 3 (a := "Scripts") (m := "amount") (d := dp3) rfl (c.ex_ 16 rfl)
        have B : Binds K fd ["self"] [] := F.bindsN fun _ _ _ _ _ _ us hl => match us, hl with | [_], _ => rfl
        exact ⟨fd, [], F, B, .nil⟩
    f_Scripts_end_of := by
        obtain ⟨fd, F⟩ := T0.def_ 39 rfl
        have B : Binds K fd ["self", "script"] [] := F.bindsN fun _ _ _ _ _ _ us hl => match us, hl with | [_, _], _ => rfl
        exact ⟨fd, [], F, B, .nil⟩
    f_Scripts___contains__ := by
        obtain ⟨fd, F⟩ := T0.def_ 40 rfl
        have B : Binds K fd ["self", "script"] [] := F.bindsN fun _ _ _ _ _ _ us hl => match us, hl with | [_, _], _ => rfl
        exact ⟨fd, [], F, B, .nil⟩
    f_Scripts___getitem__ := by
        obtain ⟨fd, F⟩ := T0.def_ 41 rfl
        have B : Binds K fd ["self", "number"] [] := F.bindsN fun _ _ _ _ _ _ us hl => match us, hl with | [_, _], _ => rfl
        exact ⟨fd, [], F, B, .nil⟩
    f_Scripts_number_of := by
        obtain ⟨fd, F⟩ := T0.def_ 42 rfl
        have B : Binds K fd ["self", "script"] [] := F.bindsN fun _ _ _ _ _ _ us hl => match us, hl with | [_, _], _ => rfl
        exact ⟨fd, [], F, B, .nil⟩
    f__law_numbers := by
        obtain ⟨fd, F⟩ := T0.def_ 43 rfl
        have B : Binds K fd ["_law_cell", "_law_salt", "_law_sizes"] [] := F.bindsN fun _ _ _ _ _ _ us hl => match us, hl with | [_, _, _], _ => rfl
        exact ⟨fd, [], F, B, .nil⟩
    f__law_pool := by
        obtain ⟨fd, F⟩ := T0.def_ 44 rfl
        have B : Binds K fd ["_law_cell", "_law_salt", "_law_many"] [] := F.bindsN fun _ _ _ _ _ _ us hl => match us, hl with | [_, _, _], _ => rfl
        exact ⟨fd, [], F, B, .nil⟩
    f__law_draw := by
        obtain ⟨fd, F⟩ := T0.def_ 45 rfl
        have B : Binds K fd ["_law_pool_here", "_law_many"] [] := F.bindsN fun _ _ _ _ _ _ us hl => match us, hl with | [_, _], _ => rfl
        exact ⟨fd, [], F, B, .nil⟩
    f__law_opened := by
        obtain ⟨fd, F⟩ := T0.def_ 46 rfl
        have B : Binds K fd ["_law_script", "_law_k", "_law_many"] [] := F.bindsN fun _ _ _ _ _ _ us hl => match us, hl with | [_, _, _], _ => rfl
        exact ⟨fd, [], F, B, .nil⟩
    f__law_endless := by
        obtain ⟨fd, F⟩ := T0.def_ 47 rfl
        have B : Binds K fd ["_law_has_line"] [] := F.bindsN fun _ _ _ _ _ _ us hl => match us, hl with | [_], _ => rfl
        exact ⟨fd, [], F, B, .nil⟩
    f__law_tower := by
        obtain ⟨fd, F⟩ := T0.def_ 48 rfl
        have B : Binds K fd ["_law_levels"] [] := F.bindsN fun _ _ _ _ _ _ us hl => match us, hl with | [_], _ => rfl
        exact ⟨fd, [], F, B, .nil⟩
    f__law_sum := by
        obtain ⟨fd, F⟩ := T0.def_ 49 rfl
        have B : Binds K fd ["_law_many"] [] := F.bindsN fun _ _ _ _ _ _ us hl => match us, hl with | [_], _ => rfl
        exact ⟨fd, [], F, B, .nil⟩
    f__law_told := by
        obtain ⟨fd, F⟩ := T0.def_ 50 rfl
        have B : Binds K fd ["_law_program", "_law_moves"] [] := F.bindsN fun _ _ _ _ _ _ us hl => match us, hl with | [_, _], _ => rfl
        exact ⟨fd, [], F, B, .nil⟩
    f__law_great := by
        obtain ⟨fd, F⟩ := T0.def_ 51 rfl
        have B : Binds K fd ["_law_program"] [] := F.bindsN fun _ _ _ _ _ _ us hl => match us, hl with | [_], _ => rfl
        exact ⟨fd, [], F, B, .nil⟩
    f_law := by
        obtain ⟨fd, F⟩ := T0.def_ 52 rfl
        have B : Binds K fd ["_law_script"] [] := F.bindsN fun _ _ _ _ _ _ us hl => match us, hl with | [_], _ => rfl
        exact ⟨fd, [], F, B, .nil⟩
    g_is_integer := He.glo_ok KX G (T0.facts (f := .glo "is_integer") (List.mem_of_getElem? (i := 0) rfl))
    g_is_word := He.glo_ok KX G (T0.facts (f := .glo "is_word") (List.mem_of_getElem? (i := 1) rfl))
    g_is_within := He.glo_ok KX G (T0.facts (f := .glo "is_within") (List.mem_of_getElem? (i := 2) rfl))
    g_is_sign_part := He.glo_ok KX G (T0.facts (f := .glo "is_sign_part") (List.mem_of_getElem? (i := 3) rfl))
    g_is_row := He.glo_ok KX G (T0.facts (f := .glo "is_row") (List.mem_of_getElem? (i := 4) rfl))
    g_are_words := He.glo_ok KX G (T0.facts (f := .glo "are_words") (List.mem_of_getElem? (i := 5) rfl))
    g_has_ring := He.glo_ok KX G (T0.facts (f := .glo "has_ring") (List.mem_of_getElem? (i := 6) rfl))
    g_sections_of := He.glo_ok KX G (T0.facts (f := .glo "sections_of") (List.mem_of_getElem? (i := 7) rfl))
    g_Program := He.glo_ok KX G (T0.facts (f := .glo "Program") (List.mem_of_getElem? (i := 8) rfl))
    g_put_in := He.glo_ok KX G (T0.facts (f := .glo "put_in") (List.mem_of_getElem? (i := 9) rfl))
    g_at_cell := He.glo_ok KX G (T0.facts (f := .glo "at_cell") (List.mem_of_getElem? (i := 10) rfl))
    g_points_behind := He.glo_ok KX G (T0.facts (f := .glo "points_behind") (List.mem_of_getElem? (i := 11) rfl))
    g_changed_store := He.glo_ok KX G (T0.facts (f := .glo "changed_store") (List.mem_of_getElem? (i := 12) rfl))
    g_frames_in := He.glo_ok KX G (T0.facts (f := .glo "frames_in") (List.mem_of_getElem? (i := 13) rfl))
    g_row_ways := He.glo_ok KX G (T0.facts (f := .glo "row_ways") (List.mem_of_getElem? (i := 14) rfl))
    g_with_frames := He.glo_ok KX G (T0.facts (f := .glo "with_frames") (List.mem_of_getElem? (i := 15) rfl))
    g_callee_at := He.glo_ok KX G (T0.facts (f := .glo "callee_at") (List.mem_of_getElem? (i := 16) rfl))
    g_come_back := He.glo_ok KX G (T0.facts (f := .glo "come_back") (List.mem_of_getElem? (i := 17) rfl))
    g_place_in := He.glo_ok KX G (T0.facts (f := .glo "place_in") (List.mem_of_getElem? (i := 18) rfl))
    g_rows_behind := He.glo_ok KX G (T0.facts (f := .glo "rows_behind") (List.mem_of_getElem? (i := 19) rfl))
    g_is_resting := He.glo_ok KX G (T0.facts (f := .glo "is_resting") (List.mem_of_getElem? (i := 20) rfl))
    g_serving := He.glo_ok KX G (T0.facts (f := .glo "serving") (List.mem_of_getElem? (i := 21) rfl))
    g_begin_line := He.glo_ok KX G (T0.facts (f := .glo "begin_line") (List.mem_of_getElem? (i := 22) rfl))
    g_all_moves := He.glo_ok KX G (T0.facts (f := .glo "all_moves") (List.mem_of_getElem? (i := 23) rfl))
    g_is_move := He.glo_ok KX G (T0.facts (f := .glo "is_move") (List.mem_of_getElem? (i := 24) rfl))
    g_state_behind := He.glo_ok KX G (T0.facts (f := .glo "state_behind") (List.mem_of_getElem? (i := 25) rfl))
    g_first_state := He.glo_ok KX G (T0.facts (f := .glo "first_state") (List.mem_of_getElem? (i := 26) rfl))
    g_check_program := He.glo_ok KX G (T0.facts (f := .glo "check_program") (List.mem_of_getElem? (i := 27) rfl))
    g_states_of := He.glo_ok KX G (T0.facts (f := .glo "states_of") (List.mem_of_getElem? (i := 28) rfl))
    g_small_enough := He.glo_ok KX G (T0.facts (f := .glo "small_enough") (List.mem_of_getElem? (i := 29) rfl))
    g_after_move := He.glo_ok KX G (T0.facts (f := .glo "after_move") (List.mem_of_getElem? (i := 30) rfl))
    g__law_numbers := He.glo_ok KX G (T0.facts (f := .glo "_law_numbers") (List.mem_of_getElem? (i := 31) rfl))
    g__law_pool := He.glo_ok KX G (T0.facts (f := .glo "_law_pool") (List.mem_of_getElem? (i := 32) rfl))
    g_Scripts := He.glo_ok KX G (T0.facts (f := .glo "Scripts") (List.mem_of_getElem? (i := 33) rfl))
    g_many_states := He.glo_ok KX G (T0.facts (f := .glo "many_states") (List.mem_of_getElem? (i := 34) rfl))
    g__law_tower := He.glo_ok KX G (T0.facts (f := .glo "_law_tower") (List.mem_of_getElem? (i := 35) rfl))
    g__law_great := He.glo_ok KX G (T0.facts (f := .glo "_law_great") (List.mem_of_getElem? (i := 36) rfl))
    g__law_told := He.glo_ok KX G (T0.facts (f := .glo "_law_told") (List.mem_of_getElem? (i := 37) rfl))
    g__law_draw := He.glo_ok KX G (T0.facts (f := .glo "_law_draw") (List.mem_of_getElem? (i := 38) rfl))
    g__law_sum := He.glo_ok KX G (T0.facts (f := .glo "_law_sum") (List.mem_of_getElem? (i := 39) rfl))
    g__law_endless := He.glo_ok KX G (T0.facts (f := .glo "_law_endless") (List.mem_of_getElem? (i := 40) rfl))
    g__law_opened := He.glo_ok KX G (T0.facts (f := .glo "_law_opened") (List.mem_of_getElem? (i := 41) rfl))
    z_isinstance := He.free_ok KX G (T0.facts (f := .free "isinstance") (List.mem_of_getElem? (i := 45) rfl))
    z_int := He.free_ok KX G (T0.facts (f := .free "int") (List.mem_of_getElem? (i := 46) rfl))
    z_bool := He.free_ok KX G (T0.facts (f := .free "bool") (List.mem_of_getElem? (i := 47) rfl))
    z_all := He.free_ok KX G (T0.facts (f := .free "all") (List.mem_of_getElem? (i := 48) rfl))
    z_str := He.free_ok KX G (T0.facts (f := .free "str") (List.mem_of_getElem? (i := 49) rfl))
    z_len := He.free_ok KX G (T0.facts (f := .free "len") (List.mem_of_getElem? (i := 50) rfl))
    z_dict := He.free_ok KX G (T0.facts (f := .free "dict") (List.mem_of_getElem? (i := 51) rfl))
    z_zip := He.free_ok KX G (T0.facts (f := .free "zip") (List.mem_of_getElem? (i := 52) rfl))
    z_tuple := He.free_ok KX G (T0.facts (f := .free "tuple") (List.mem_of_getElem? (i := 53) rfl))
    z_sorted := He.free_ok KX G (T0.facts (f := .free "sorted") (List.mem_of_getElem? (i := 54) rfl))
    z_any := He.free_ok KX G (T0.facts (f := .free "any") (List.mem_of_getElem? (i := 55) rfl))
    z_range := He.free_ok KX G (T0.facts (f := .free "range") (List.mem_of_getElem? (i := 56) rfl))
    z_list := He.free_ok KX G (T0.facts (f := .free "list") (List.mem_of_getElem? (i := 57) rfl))
    z_sum := He.free_ok KX G (T0.facts (f := .free "sum") (List.mem_of_getElem? (i := 58) rfl))
    z_enumerate := He.free_ok KX G (T0.facts (f := .free "enumerate") (List.mem_of_getElem? (i := 59) rfl))
    z_max := He.free_ok KX G (T0.facts (f := .free "max") (List.mem_of_getElem? (i := 60) rfl))
    z_min := He.free_ok KX G (T0.facts (f := .free "min") (List.mem_of_getElem? (i := 61) rfl))
    v_MOST_LETTERS := He.int_ok KX G (T0.facts (f := .int "MOST_LETTERS" 8) (List.mem_of_getElem? (i := 62) rfl))
    v_MOST_ROWS := He.int_ok KX G (T0.facts (f := .int "MOST_ROWS" 24) (List.mem_of_getElem? (i := 63) rfl))
    v_MOST_LINES := He.int_ok KX G (T0.facts (f := .int "MOST_LINES" 6) (List.mem_of_getElem? (i := 64) rfl))
    v_MOST_SECTIONS := He.int_ok KX G (T0.facts (f := .int "MOST_SECTIONS" 3) (List.mem_of_getElem? (i := 65) rfl))
    v_MOST_PROCEDURES := He.int_ok KX G (T0.facts (f := .int "MOST_PROCEDURES" 12) (List.mem_of_getElem? (i := 66) rfl))
    v_MOST_STORES := He.int_ok KX G (T0.facts (f := .int "MOST_STORES" 256) (List.mem_of_getElem? (i := 67) rfl))
    v_MOST_CELLS := He.int_ok KX G (T0.facts (f := .int "MOST_CELLS" 6) (List.mem_of_getElem? (i := 68) rfl))
    v_MOST_VALUES := He.int_ok KX G (T0.facts (f := .int "MOST_VALUES" 6) (List.mem_of_getElem? (i := 69) rfl))
    v_MOST_LEVELS := He.int_ok KX G (T0.facts (f := .int "MOST_LEVELS" 4) (List.mem_of_getElem? (i := 70) rfl))
    v_MOST_STATES := He.int_ok KX G (T0.facts (f := .int "MOST_STATES" 20000) (List.mem_of_getElem? (i := 71) rfl))
    v_MOST_COUNTS := He.int_ok KX G (T0.facts (f := .int "MOST_COUNTS" 200000) (List.mem_of_getElem? (i := 72) rfl))
    v_MOST_MOVES := He.int_ok KX G (T0.facts (f := .int "MOST_MOVES" 1000) (List.mem_of_getElem? (i := 73) rfl))
    v_LETTERS := He.str_ok KX G (T0.facts (f := .str "LETTERS" "abcdefghijklmnopqrstuvwxyz") (List.mem_of_getElem? (i := 74) rfl))
    c_Program := He.cls_ok (T0.facts (f := .cls "Program") (List.mem_of_getElem? (i := 75) rfl))
    mk_Program := He.mkr_ok (T0.facts (f := .mkr "Program") (List.mem_of_getElem? (i := 77) rfl))
    c_Scripts := He.cls_ok (T0.facts (f := .cls "Scripts") (List.mem_of_getElem? (i := 76) rfl))
    mk_Scripts := He.mkr_ok (T0.facts (f := .mkr "Scripts") (List.mem_of_getElem? (i := 78) rfl))
    i_Program := insB_ok (He.cls_ok (T0.facts (f := .cls "Program") (List.mem_of_getElem? (i := 75) rfl))) (c.ex_ 0 rfl)
    n_Program_own_levels := He.noat_ok (T0.facts (f := .noat "Program" "own_levels") (List.mem_of_getElem? (i := 79) rfl))
    n_Program_own_size := He.noat_ok (T0.facts (f := .noat "Program" "own_size") (List.mem_of_getElem? (i := 80) rfl))
    n_Program_own_main := He.noat_ok (T0.facts (f := .noat "Program" "own_main") (List.mem_of_getElem? (i := 81) rfl))
    n_Program_lists := He.noat_ok (T0.facts (f := .noat "Program" "lists") (List.mem_of_getElem? (i := 82) rfl))
    n_Program_firsts := He.noat_ok (T0.facts (f := .noat "Program" "firsts") (List.mem_of_getElem? (i := 83) rfl))
    n_Program_own_guards := He.noat_ok (T0.facts (f := .noat "Program" "own_guards") (List.mem_of_getElem? (i := 84) rfl))
    n_Program_own_lines := He.noat_ok (T0.facts (f := .noat "Program" "own_lines") (List.mem_of_getElem? (i := 85) rfl))
    n_Program_own_sections := He.noat_ok (T0.facts (f := .noat "Program" "own_sections") (List.mem_of_getElem? (i := 86) rfl))
    n_Scripts_own_moves := He.noat_ok (T0.facts (f := .noat "Scripts" "own_moves") (List.mem_of_getElem? (i := 87) rfl))
    n_Scripts_layers := He.noat_ok (T0.facts (f := .noat "Scripts" "layers") (List.mem_of_getElem? (i := 88) rfl))
    n_Scripts_own_first := He.noat_ok (T0.facts (f := .noat "Scripts" "own_first") (List.mem_of_getElem? (i := 89) rfl))
    n_Scripts_own_program := He.noat_ok (T0.facts (f := .noat "Scripts" "own_program") (List.mem_of_getElem? (i := 90) rfl))
    me_Program_spots := He.meth_ok (T0.facts (f := .meth "Program" "spots") (List.mem_of_getElem? (i := 91) rfl))
    me_Program_are_guards := He.meth_ok (T0.facts (f := .meth "Program" "are_guards") (List.mem_of_getElem? (i := 92) rfl))
    me_Program_is_served := He.meth_ok (T0.facts (f := .meth "Program" "is_served") (List.mem_of_getElem? (i := 93) rfl))
    me_Program_keep_rows := He.meth_ok (T0.facts (f := .meth "Program" "keep_rows") (List.mem_of_getElem? (i := 94) rfl))
    me_Program_first_store := He.meth_ok (T0.facts (f := .meth "Program" "first_store") (List.mem_of_getElem? (i := 95) rfl))
    me_Scripts_all_layers := He.meth_ok (T0.facts (f := .meth "Scripts" "all_layers") (List.mem_of_getElem? (i := 96) rfl))
    me_Scripts_end_of := He.meth_ok (T0.facts (f := .meth "Scripts" "end_of") (List.mem_of_getElem? (i := 97) rfl))
    me_Scripts_number_of := He.meth_ok (T0.facts (f := .meth "Scripts" "number_of") (List.mem_of_getElem? (i := 98) rfl))
    p_Program_levels := propB_ok (c.ex_ 1 rfl)
    p_Program_size := propB_ok (c.ex_ 2 rfl)
    p_Program_main := propB_ok (c.ex_ 3 rfl)
    p_Scripts_amount := propB_ok (c.ex_ 4 rfl)
    p_Scripts_length := propB_ok (c.ex_ 5 rfl)
    du_Scripts___contains__ := dunB_ok (c.ex_ 6 rfl)
    du_Scripts___getitem__ := dunB_ok (c.ex_ 7 rfl)
    err := errTxt_of KX G (c.ex_ 8 rfl) (c.ex_ 9 rfl) (T0.facts (f := .glo "TooMany") (List.mem_of_getElem? (i := 43) rfl)) (T0.facts (f := .noat "TooMany" "number") (List.mem_of_getElem? (i := 101) rfl)) (T0.facts (f := .meth "TooMany" "__init__") (List.mem_of_getElem? (i := 102) rfl)) (T0.facts (f := .keep "TooMany") (List.mem_of_getElem? (i := 100) rfl)) (T0.facts (f := .exm "TooMany" "TooMany" true) (List.mem_of_getElem? (i := 99) rfl)) (T0.def_ 53 rfl)
    forms := fun {X} eK em ew => by
        subst eK em ew
        obtain ⟨es, n, D⟩ := c.x.t.tab 0 rfl
        exact ⟨⟨_, es, n, He.glo_ok KX G (T0.facts (f := .glo "FORMS") (List.mem_of_getElem? (i := 44) rfl)), D, fun z y e => by
          have m := look_mem e
          simp only [formsL, List.mem_cons, Prod.mk.injEq, List.not_mem_nil, or_false] at m
          rcases m with ⟨rfl, rfl⟩ | ⟨rfl, rfl⟩ | ⟨rfl, rfl⟩
          · exact ntxB_ok (c.ex_ 10 rfl)
          · exact ntxB_ok (c.ex_ 11 rfl)
          · exact ntxB_ok (c.ex_ 12 rfl)⟩, rfl⟩
  }
end Kt

/-! k18: the top's run, in the kernel (own work). -/
namespace Kt
open PySem PySem.Spec PyProof.Rows L2 Mp
abbrev R : PySem.W.OpenRow := PySem.W.OpenLaw.row PySem.Challenge.rw_maskedlevels_k18_whole_counts_of_great_p
abbrev hk : PySem.W.Hook := hookK fal fn tabL lamL exL dps 5
def ob (s : PySem.W.SharedT) : AlK := obsK fal fn tabL lamL exL dps 5 (HandSHeadRun.getT s)
theorem ob_eq (s : PySem.W.SharedT) : ob s = hk.obs s.abs := obsK_eq (HandSHeadRun.getT_eq s)
theorem run0 (w : World) : HandSHeadRun.RunEq R (PySem.W.view R.prog [lawI]) hk ob 20000 loose (w.withFollow "special-get-raises" false) := by
  intro os
  kernel_rfl
theorem run1 (w : World) : HandSHeadRun.RunEq R (PySem.W.view R.prog [lawI]) hk ob 20000 loose (w.withFollow "special-get-raises" true) := by
  intro os
  kernel_rfl
theorem run (w : World) : HandSHeadRun.RunEq R (PySem.W.view R.prog [lawI]) hk ob 20000 loose w := PySem.W.byRow2 "special-get-raises" run0 run1 w
end Kt

/-! k18: the law's promise, from what d_law gives (own work). -/
namespace Kt
open PySem PySem.Spec PyProof.Rows L2 Mp
/-- what is left to mathematics -/
def LawGives : Prop := ∀ ns : List Int, ns.length ≤ 63 → ∃ μ, d_law [.scr ns] [] = .ok (.bl true) μ
theorem law_sp (L : LawGives) {w : World} {K : PySem.W.Frag} (nol : ∀ a o, K.lookup a = some o → isL o = false) {H : Hp} {a : Addr} {ns : List Int} (hl : ns.length ≤ 63) (hT : ∀ p ∈ lamL, H (He.cT K p).2 = some (.tbl #[])) (hS : SqL K H a (ns.map V.int)) :
    spM w (caK K) 1 d_law [.ref a] H (fun v _ => v = .bl true) fun _ _ _ => False := by
  have rd : Rd H a (.lst (ns.map V.int)) := by
    rcases hS with h | ⟨o, its, n, hk, hc, _⟩
    · exact h
    · have := nol a o hk
      unfold isL at this
      rw [hc] at this
      simp at this
  obtain ⟨μ, e⟩ := L ns hl
  have na : ∀ p ∈ lamL, (He.cT K p).2 ≠ a := fun p hp z => by
    have q := hT p hp
    rw [z] at q
    rcases rd with r | ⟨o, r⟩ <;> (rw [r] at q; cases q)
  refine ⟨⟨fun b => if b = a then H a else none, []⟩, [], [.scr ns], ⟨fun b o e => ?_, rfl, List.nodup_nil (α := Addr), fun n d b h => (by simp at h), fun b (h : b ∈ []) => (by cases h), fun p hp => ?_⟩, ⟨_, [], rfl, ⟨a, rfl, ?_⟩, rfl⟩, rfl, ?_⟩
  · have e : (if b = a then H a else none) = some o := e
    split at e
    · rename_i z; subst z; exact e
    · cases e
  · have hp : p ∈ (caK K).T := hp
    simp only [caK, List.mem_cons, List.not_mem_nil, or_false] at hp
    have key : ∀ q ∈ lamL, p.1 = (He.cT K q).2 → ∃ ps : Array Value, H p.1 = some (.tbl ps) ∧ TriplesOk ps.toList ∧ (∀ (pos : Pos) (cv : Value), codeAmong pos ps.toList = some cv → ∃ c, cv = .ref c ∧ (fun b => if b = a then H a else none) c = some (LamX.CodeO c p.2)) ∧ (fun b => if b = a then H a else none) p.1 = none ∧ p.1 ∉ ([] : List Addr) := fun q hq ep => by
      refine ⟨#[], by rw [ep]; exact hT q hq, True.intro, fun pos cv h => ?_, ?_, by simp⟩
      · have z : codeAmong pos [] = some cv := h
        simp [codeAmong] at z
      · show (if p.1 = a then H a else none) = none
        rw [if_neg (by rw [ep]; exact na q hq)]
    rcases hp with rfl | rfl | rfl
    · exact key _ (List.mem_of_getElem? (i := 0) rfl) rfl
    · exact key _ (List.mem_of_getElem? (i := 1) rfl) rfl
    · exact key _ (List.mem_of_getElem? (i := 2) rfl) rfl
  · show ((if a = a then H a else none) = _) ∨ ∃ o, (if a = a then H a else none) = _
    rw [if_pos rfl]
    exact rd
  · unfold Wp
    rw [e]
    exact fun W' H' g f v rv => rv
theorem law_at (L : LawGives) {w : World} {K : PySem.W.Frag} {h : Heap} {mg : Str → Option Value} {f : Addr} (KX : K.In h) (G : h.Ns mainGlobals mg) (c : SaysK fal fn tabL lamL exL dps w h K) (hmg : mg "law" = some (.ref f)) :
    LamX.LawAtS PySem.Challenge.rw_maskedlevels_k18_whole_counts_of_great_p w K (L2.CX PySem.Challenge.rw_maskedlevels_k18_whole_counts_of_great_p.prog w) 11 63 "_law_script" mg f h := by
  have T0 : He.SaysD fal fn K := c.x.t.d
  obtain ⟨fd, F⟩ := T0.def_ 52 rfl
  have eg := He.glo_ok KX G (T0.facts (f := .glo "law") (List.mem_of_getElem? (i := 42) rfl))
  rw [eg] at hmg
  cases hmg
  have hb := FunD.bindsA (ps := ["_law_script"]) F fun _ _ _ _ _ _ us hl => match us, hl with | [_], _ => rfl
  refine ⟨fd, lamL.map (He.cT K), spM w (caK K) 1 d_law, ?_, ?_, ?_, fun s v => hb s [v] rfl, fun H a ns hl _ hT hS => law_sp L c.nol hl (fun p hp => hT _ (List.mem_map_of_mem hp)) hS, fun base KB GB hT => ?_⟩
  · intro p hp
    obtain ⟨q, hq, rfl⟩ := List.mem_map.mp hp
    exact c.x.empty q hq
  · intro p hp
    obtain ⟨q, hq, rfl⟩ := List.mem_map.mp hp
    exact c.x.out q hq
  · intro p hp
    obtain ⟨q, hq, rfl⟩ := List.mem_map.mp hp
    exact PySem.W.codeHd_of_K KX (c.x.hd q hq)
  · exact ok_law (tx_of KB GB c fun p hp => hT _ (List.mem_map_of_mem hp)) F
end Kt

/-! What combinators give, step by step (own work). -/
namespace Mp
open PySem

theorem Res.bind_eq {α β : Type} {r : Res α} {f : α → M β} {a : α} {μ : Mu} {R : Res β} (h : r = .ok a μ) (k : f a μ = R) : Res.bind r f = R := by rw [h]; exact k
theorem Res.bind_exc {α β : Type} {r : Res α} {f : α → M β} {x : Xn} {μ : Mu} (h : r = .exc x μ) : Res.bind r f = .exc x μ := by rw [h]; rfl
theorem bnd {α β : Type} {m : M α} {f : α → M β} {a : α} {μ μ1 : Mu} {R : Res β} (h : m μ = .ok a μ1) (k : f a μ1 = R) : (m >>= f) μ = R := Res.bind_eq (r := m μ) h k
theorem bndX {α β : Type} {m : M α} {f : α → M β} {x : Xn} {μ μ1 : Mu} (h : m μ = .exc x μ1) : (m >>= f) μ = .exc x μ1 := Res.bind_exc (r := m μ) h
section
variable {ρ ρ1 ρ2 : Rho} {μ μ1 μ2 μ3 : Mu} {e a b c k v : Den} {d d1 d2 y z : D} {s r : Sm} {R : Res Out}
theorem sm_if (h : ∃ x, c.t ρ μ = .ok x μ1 ∧ (if x then s ρ μ1 else r ρ μ1) = R) : Dm.if_ c s r ρ μ = R := by
  obtain ⟨x, h, k⟩ := h
  refine bnd (m := c.t ρ) h ?_
  cases x
  · exact k
  · exact k
theorem sm_t (h : c.t ρ μ = .ok true μ1) (k : s ρ μ1 = R) : Dm.if_ c s r ρ μ = R := sm_if ⟨true, h, k⟩
theorem sm_f (h : c.t ρ μ = .ok false μ1) (k : r ρ μ1 = R) : Dm.if_ c s r ρ μ = R := sm_if ⟨false, h, k⟩
theorem sm_cons (h : s ρ μ = .ok (.next ρ1) μ1) (k : r ρ1 μ1 = R) : Dm.cons s r ρ μ = R := bnd (m := s ρ) h k
theorem sm_consR (h : s ρ μ = .ok (.ret d) μ1) : Dm.cons s r ρ μ = .ok (.ret d) μ1 := bnd (m := s ρ) h rfl
theorem sm_consB (h : s ρ μ = .ok (.brk ρ1) μ1) : Dm.cons s r ρ μ = .ok (.brk ρ1) μ1 := bnd (m := s ρ) h rfl
theorem sm_consX {x : Xn} (h : s ρ μ = .exc x μ1) : Dm.cons s r ρ μ = .exc x μ1 := bndX (m := s ρ) h
theorem sm_asg {t : Tg} (h : e.v ρ μ = .ok d μ1) (k : assign ρ t d = some ρ1) : Dm.asg t e ρ μ = .ok (.next ρ1) μ1 := bnd (m := e.v ρ) h (by rw [k]; rfl)
theorem sm_own {i : Nat} (h : e.v ρ μ = .ok d μ1) (k : ownOk d = true) : Dm.own i e ρ μ = .ok (.next (ρ.set i (some (.own d)))) μ1 := bnd (m := e.v ρ) h (by rw [if_pos k]; rfl)
theorem sm_ret (h : e.v ρ μ = .ok d μ1) : Dm.ret e ρ μ = .ok (.ret d) μ1 := bnd (m := e.v ρ) h rfl
theorem sm_retX {x : Xn} (h : e.v ρ μ = .exc x μ1) : Dm.ret e ρ μ = .exc x μ1 := bndX (m := e.v ρ) h
theorem sm_drop (h : e.v ρ μ = .ok d μ1) : Dm.drop e ρ μ = .ok (.next ρ) μ1 := bnd (m := e.v ρ) h rfl
theorem sm_dropX {x : Xn} (h : e.v ρ μ = .exc x μ1) : Dm.drop e ρ μ = .exc x μ1 := bndX (m := e.v ρ) h
theorem change_slot {i : Nat} {g : D → Option D} (hρ : ρ[i]? = some (some (.own d))) (hs : g d = some d1) : change ρ g (.slot i) μ = .ok (ρ.set i (some (.own d1))) μ := by
  simp only [change, hρ, hs]
  rfl
theorem sm_app {i : Nat} {l : List D} (hρ : ρ[i]? = some (some (.own (.lst l)))) (h : e.v ρ μ = .ok d μ1) (k : l.length < line) : Dm.app i e ρ μ = .ok (.next (ρ.set i (some (.own (.lst (l ++ [d])))))) μ1 := by
  show ownL ρ i _ μ = _
  unfold ownL
  rw [hρ]
  refine bnd (m := e.v ρ) h ?_
  exact bnd (m := change ρ (appIn d) (.slot i)) (change_slot hρ (if_pos k)) rfl
theorem sm_setI {i : Nat} (hv : v.v ρ μ = .ok y μ1) (hx : e.q ρ μ1 = .ok (.slot i) μ2) (hk : k.v ρ μ2 = .ok z μ3) (hρ : ρ[i]? = some (some (.own d))) (hs : setIn z y d = some d1) : Dm.setI e k v ρ μ = .ok (.next (ρ.set i (some (.own d1)))) μ3 := by
  exact bnd (m := v.v ρ) hv (bnd (m := e.q ρ) hx (bnd (m := k.v ρ) hk (bnd (m := change ρ (setIn z y) (.slot i)) (change_slot hρ hs) rfl)))
theorem sm_for {t : Tg} {it : Rho → M (List D)} {ds : List D} (h : it ρ μ = .ok ds μ1) (k : forM ρ t s ds μ1 = R) : Dm.for_ t it s ρ μ = R := bnd (m := it ρ) h k
theorem for_nil {t : Tg} : forM ρ t s [] μ = .ok (.next ρ) μ := rfl
theorem for_cons {t : Tg} {ds : List D} (ha : assign ρ t d = some ρ1) (h : s ρ1 μ = .ok (.next ρ2) μ1) (k : forM ρ2 t s ds μ1 = R) : forM ρ t s (d :: ds) μ = R := by
  refine bnd (m := M.some? (assign ρ t d)) (a := ρ1) (μ1 := μ) (by rw [ha]; rfl) (bnd (m := s ρ1) h k)
theorem for_brk {t : Tg} {ds : List D} (ha : assign ρ t d = some ρ1) (h : s ρ1 μ = .ok (.brk ρ2) μ1) : forM ρ t s (d :: ds) μ = .ok (.next ρ2) μ1 := by
  refine bnd (m := M.some? (assign ρ t d)) (a := ρ1) (μ1 := μ) (by rw [ha]; rfl) (bnd (m := s ρ1) h rfl)
theorem for_ret {t : Tg} {ds : List D} (ha : assign ρ t d = some ρ1) (h : s ρ1 μ = .ok (.ret d1) μ1) : forM ρ t s (d :: ds) μ = .ok (.ret d1) μ1 := by
  refine bnd (m := M.some? (assign ρ t d)) (a := ρ1) (μ1 := μ) (by rw [ha]; rfl) (bnd (m := s ρ1) h rfl)
theorem while_f {n : Nat} (h : c.t ρ μ = .ok false μ1) : whileM c.t s (n + 1) ρ μ = .ok (.next ρ) μ1 := bnd (m := c.t ρ) h rfl
theorem while_t {n : Nat} (h : c.t ρ μ = .ok true μ1) (hb : s ρ μ1 = .ok (.next ρ1) μ2) (k : whileM c.t s n ρ1 μ2 = R) : whileM c.t s (n + 1) ρ μ = R := bnd (m := c.t ρ) h (bnd (m := s ρ) hb k)
theorem while_x {n : Nat} {x : Xn} (h : c.t ρ μ = .ok true μ1) (hb : s ρ μ1 = .exc x μ2) : whileM c.t s (n + 1) ρ μ = .exc x μ2 := bnd (m := c.t ρ) h (bndX (m := s ρ) hb)
theorem dn_call {f : Fn} {l : Dens} {ds : List D} {Q : Res D} (h : evs ρ l μ = .ok ds μ1) (k : f ds μ1 = Q) : (Dn.call f l).v ρ μ = Q := bnd (m := evs ρ l) h k
theorem fn_of {p n : Nat} {ds : List D} {Q : Res D} (hl : ds.length = p) (h : (s (start n ds) >>= retOf) μ = Q) : fnOf p n s ds μ = Q := by
  unfold fnOf
  rw [if_pos hl]
  exact h
theorem fn_ret {p n : Nat} {ds : List D} (hl : ds.length = p) (h : s (start n ds) μ = .ok (.ret d) μ1) : fnOf p n s ds μ = .ok d μ1 := fn_of hl (bnd (m := s (start n ds)) h rfl)
theorem fn_non {p n : Nat} {ds : List D} (hl : ds.length = p) (h : s (start n ds) μ = .ok (.next ρ) μ1) : fnOf p n s ds μ = .ok .non μ1 := fn_of hl (bnd (m := s (start n ds)) h rfl)
theorem fn_exc {p n : Nat} {ds : List D} {x : Xn} (hl : ds.length = p) (h : s (start n ds) μ = .exc x μ1) : fnOf p n s ds μ = .exc x μ1 := fn_of hl (bndX (m := s (start n ds)) h)
theorem bin_v {o : BOp} {qa qb : Q} (ha : a.q ρ μ = .ok qa μ1) (hb : b.q ρ μ1 = .ok qb μ2) (hc : cont ρ qa μ2 = .ok y μ2) (hd : cont ρ qb μ2 = .ok z μ2) (ho : binop o y z = some d) : (Dn.bin o a b).v ρ μ = .ok d μ2 :=
  bnd (m := a.q ρ) ha (bnd (m := b.q ρ) hb (bnd (m := cont ρ qa) hc (bnd (m := cont ρ qb) hd (by rw [ho]; rfl))))
theorem cmp_t {o : COp} {qa qb : Q} {r : Bool} (ha : a.q ρ μ = .ok qa μ1) (hb : b.q ρ μ1 = .ok qb μ2) (hl : leftOf ρ o qa μ2 = .ok y μ2) (hr : cont ρ qb μ2 = .ok z μ2) (hc : cmpop o y z = some r) : (Dn.cmp o a b).t ρ μ = .ok r μ2 :=
  bnd (m := a.q ρ) ha (bnd (m := b.q ρ) hb (bnd (m := leftOf ρ o qa) hl (bnd (m := cont ρ qb) hr (by rw [hc]; rfl))))
theorem cmp_v {o : COp} {r : Bool} (h : (Dn.cmp o a b).t ρ μ = .ok r μ1) : (Dn.cmp o a b).v ρ μ = .ok (.bl r) μ1 := bnd (m := (Dn.cmp o a b).t ρ) h rfl
theorem idx_v {qa : Q} (ha : a.q ρ μ = .ok qa μ1) (hk : k.v ρ μ1 = .ok y μ2) (hc : cont ρ qa μ2 = .ok z μ2) (hi : Mp.index z y = some d) : (Dn.idx a k).v ρ μ = .ok d μ2 :=
  bnd (m := a.q ρ) ha (bnd (m := k.v ρ) hk (bnd (m := cont ρ qa) hc (by rw [hi]; rfl)))
theorem q_val {w : Rho → M D} (h : w ρ μ = .ok d μ1) : (Den.ofV w).q ρ μ = .ok (.val d) μ1 := bnd (m := w ρ) h rfl
theorem q_valT {w : Rho → M D} {t : Rho → M Bool} (h : w ρ μ = .ok d μ1) : (Den.ofT w t).q ρ μ = .ok (.val d) μ1 := bnd (m := w ρ) h rfl
theorem noExc_eq {α : Type} {m : M α} {x : α} (h : m μ = .ok x μ1) : noExc m μ = .ok x μ1 := by unfold noExc; rw [h]
theorem not_t {r : Bool} (h : a.t ρ μ = .ok r μ1) : (Dn.not_ a).t ρ μ = .ok (!r) μ1 := bnd (m := a.t ρ) h rfl
theorem or2_f (ha : a.t ρ μ = .ok false μ1) (hb : b.t ρ μ1 = .ok false μ2) : (Dn.or_ [(false, a), (false, b)]).t ρ μ = .ok false μ2 := bnd (m := a.t ρ) ha hb
theorem or3_f (ha : a.t ρ μ = .ok false μ1) (hb : b.t ρ μ1 = .ok false μ2) (hc : c.t ρ μ2 = .ok false μ3) : (Dn.or_ [(false, a), (false, b), (false, c)]).t ρ μ = .ok false μ3 := bnd (m := a.t ρ) ha (bnd (m := b.t ρ) hb hc)
theorem chain_v {o p : COp} {r : Bool} (ha : a.v ρ μ = .ok d μ1) (hb : b.v ρ μ1 = .ok y μ2) (h1 : cmpop o d y = some true) (hc : c.v ρ μ2 = .ok z μ3) (h2 : cmpop p y z = some r) : (Dn.chain o p a b c).v ρ μ = .ok (.bl r) μ3 :=
  bnd (m := a.v ρ) ha (bnd (m := b.v ρ) hb (bnd (m := M.some? _) (a := true) (μ1 := μ2) (by rw [h1]; rfl) (bnd (m := c.v ρ) hc (bnd (m := M.some? _) (a := r) (μ1 := μ3) (by rw [h2]; rfl) rfl))))
theorem t_bl {w : Rho → M D} {r : Bool} (h : w ρ μ = .ok (.bl r) μ1) : (Den.ofV w).t ρ μ = .ok r μ1 := bnd (m := w ρ) h rfl
theorem prop_v {cl : String} {f : Fn} {o : D} (he : e.v ρ μ = .ok z μ1) (hc : content z = M.ret o) (hi : isC cl o = true) (hf : f [z] μ1 = .ok d μ2) : (Dn.prop cl f e).v ρ μ = .ok d μ2 := by
  refine bnd (m := e.v ρ) he (bnd (m := content z) (a := o) (μ1 := μ1) (by rw [hc]; rfl) ?_)
  rw [if_pos hi]
  exact noExc_eq hf
end
end Mp

/-! k18: states found, a system of states in general (own work). -/
namespace Kt
open PySem Mp

def mvD {S : Type} (enc : S → D) (mv : S → List (D × S)) (s : S) : D := .lst ((mv s).map fun p => .tup [p.1, enc p.2])
def tab {S : Type} (enc : S → D) (mv : S → List (D × S)) (q : List S) : List (D × D) := q.map fun s => (enc s, mvD enc mv s)
def add {S : Type} [DecidableEq S] (q : List S) (t : S) : List S := if t ∈ q then q else q ++ [t]
/-- a program's states -/
structure Sys {S : Type} [DecidableEq S] (P : D) (enc : S → D) (first : S) (mv : S → List (D × S)) (val : S → Prop) : Prop where
  f : val first
  v : ∀ s, val s → ∀ p ∈ mv s, val p.2
  chk : ∀ μ, d_check_program [P] μ = .ok .non μ
  fst : ∀ μ, d_first_state [P] μ = .ok (enc first) μ
  mvs : ∀ s, val s → ∀ μ, d_all_moves [P, enc s] μ = .ok (mvD enc mv s) μ
  eq : ∀ s t, val s → val t → eqv (enc s) (enc t) = decide (s = t)
  key : ∀ s, val s → keyOk true (enc s) = true
  few : ∀ s, val s → (mv s).length ≤ 100
section
variable {S : Type} [DecidableEq S] {P : D} {enc : S → D} {first : S} {mv : S → List (D × S)} {val : S → Prop}
theorem Sys.look (Y : Sys P enc first mv val) {g : S → D} {t : S} (ht : val t) : ∀ {q : List S}, (∀ s ∈ q, val s) → Mp.look (q.map fun s => (enc s, g s)) (enc t) = if t ∈ q then some (g t) else none
  | [], _ => rfl
  | s :: q, h => by
    have ih := Y.look (g := g) ht (q := q) fun s hs => h s (List.mem_cons_of_mem _ hs)
    unfold Mp.look at ih ⊢
    rw [List.map_cons, List.find?_cons]
    show Option.map (·.2) (match eqv (enc s) (enc t) with | true => some (enc s, g s) | false => _) = _
    rw [Y.eq s t (h s List.mem_cons_self) ht]
    by_cases e : s = t
    · subst e; simp
    · rw [decide_eq_false e]
      show Option.map (·.2) (List.find? (fun p => eqv p.1 (enc t)) (q.map fun s => (enc s, g s))) = _
      rw [ih]
      have : ¬ t = s := fun z => e z.symm
      simp [this]
theorem Sys.put (Y : Sys P enc first mv val) {g : S → D} {t : S} (ht : val t) {q : List S} (h : ∀ s ∈ q, val s) (n : t ∉ q) : Mp.put (q.map fun s => (enc s, g s)) (enc t) (g t) = (q ++ [t]).map fun s => (enc s, g s) := by
  unfold Mp.put
  rw [Y.look ht h, if_neg n]
  simp
def rs (enc : S → D) (mv : S → List (D × S)) (P : D) (first : S) (q : List S) (at_ : Nat) (x y : Option O) : Rho := [some (.dat P), some (.dat (enc first)), some (.own (.dct true (tab enc mv q))), some (.own (.lst (q.map enc))), some (.dat (.int at_)), x, y]
def stIn : Sm := Dm.if_ (Dn.cmp .nin (Dn.var 6) (Dn.var 2)) (Dm.cons (Dm.setI (Dn.var 2) (Dn.var 6) (Dn.call d_all_moves [(false, Dn.var 0), (false, Dn.var 6)])) (Dm.app 3 (Dn.var 6))) (Dm.nil)
theorem tabLen (q : List S) : (tab enc mv q).length = q.length := List.length_map ..
theorem Sys.turn1 (Y : Sys P enc first mv val) {q : List S} {at_ : Nat} {x : Option O} {t : S} {μ : Mu} (ht : val t) (h : ∀ s ∈ q, val s) (hl : q.length < 1000000) :
    stIn (rs enc mv P first q at_ x (some (.dat (enc t)))) μ = .ok (.next (rs enc mv P first (add q t) at_ x (some (.dat (enc t))))) μ := by
  have et : (Dn.cmp .nin (Dn.var 6) (Dn.var 2)).t (rs enc mv P first q at_ x (some (.dat (enc t)))) μ = .ok (!decide (t ∈ q)) μ := by
    have e : (Dn.cmp .nin (Dn.var 6) (Dn.var 2)).t (rs enc mv P first q at_ x (some (.dat (enc t)))) μ = M.some? ((if keyOk true (enc t) = true then some (Mp.look (tab enc mv q) (enc t)).isSome else none).map (!·)) μ := rfl
    rw [e, Y.key t ht, if_pos rfl]
    unfold tab
    rw [Y.look ht h]
    by_cases m : t ∈ q
    · rw [if_pos m, decide_eq_true m]; rfl
    · rw [if_neg m, decide_eq_false m]; rfl
  unfold stIn add
  by_cases m : t ∈ q
  · rw [decide_eq_true m] at et
    rw [if_pos m]
    exact sm_f et rfl
  · rw [decide_eq_false m] at et
    rw [if_neg m]
    have hl2 : q.length < line := by unfold line; omega
    have hs : setIn (enc t) (mvD enc mv t) (.dct true (tab enc mv q)) = some (.dct true (tab enc mv (q ++ [t]))) := by
      show (if keyOk true (enc t) = true ∧ (tab enc mv q).length < line then some (D.dct true (Mp.put (tab enc mv q) (enc t) (mvD enc mv t))) else none) = _
      rw [if_pos ⟨Y.key t ht, by rw [tabLen]; exact hl2⟩]
      unfold tab
      rw [Y.put (g := mvD enc mv) ht h m]
    refine sm_t et (sm_cons (sm_setI (i := 2) (dn_call rfl (Y.mvs t ht μ)) rfl rfl rfl hs) ?_)
    refine (sm_app (i := 3) (l := q.map enc) (d := enc t) rfl rfl (by rw [List.length_map]; exact hl2)).trans ?_
    unfold rs
    rw [List.map_append]
    rfl
/-- one state's moves gone through -/
theorem Sys.turns (Y : Sys P enc first mv val) {at_ : Nat} {μ : Mu} : ∀ {l : List (D × S)} {q : List S} {x y : Option O}, (∀ p ∈ l, val p.2) → (∀ s ∈ q, val s) → q.length + l.length < 1000000 →
    ∃ x' y', forM (rs enc mv P first q at_ x y) (.names [5, 6]) stIn (l.map fun p => .tup [p.1, enc p.2]) μ = .ok (.next (rs enc mv P first (l.foldl (fun q p => add q p.2) q) at_ x' y')) μ
  | [], q, x, y, _, _, _ => ⟨x, y, rfl⟩
  | p :: l, q, x, y, hl, hq, hn => by
    have hp := hl p List.mem_cons_self
    have ha : ∀ s ∈ add q p.2, val s := fun s hs => by
      unfold add at hs
      split at hs
      · exact hq s hs
      · rcases List.mem_append.mp hs with z | z
        · exact hq s z
        · rw [List.mem_singleton.mp z]; exact hp
    have hle : (add q p.2).length ≤ q.length + 1 := by
      unfold add
      split
      · omega
      · rw [List.length_append]; exact Nat.le_refl _
    rw [List.length_cons] at hn
    obtain ⟨x', y', e⟩ := Y.turns (at_ := at_) (μ := μ) (l := l) (q := add q p.2) (x := some (.dat p.1)) (y := some (.dat (enc p.2))) (fun r hr => hl r (List.mem_cons_of_mem _ hr)) ha (by omega)
    exact ⟨x', y', for_cons (ρ1 := rs enc mv P first q at_ (some (.dat p.1)) (some (.dat (enc p.2)))) rfl (Y.turn1 hp hq (by omega)) e⟩
def step (mv : S → List (D × S)) (q : List S) (s : S) : List S := (mv s).foldl (fun q p => add q p.2) q
def stBody : Sm := Dm.cons (Dm.for_ (.names [5, 6]) (Di.val (Dn.idx (Dn.var 2) (Dn.idx (Dn.var 3) (Dn.var 4)))) stIn) (Dm.cons (Dm.if_ (Dn.cmp .gt (Dn.bi1 .len (Dn.var 3)) (Dn.cst (.int 20000))) (Dm.raise "TooMany" "number" (Dn.bi1 .len (Dn.var 3))) (Dm.nil)) (Dm.asg (.name 4) (Dn.bin .add (Dn.var 4) (Dn.cst (.int 1)))))
theorem step_val (Y : Sys P enc first mv val) : ∀ {l : List (D × S)} {q : List S}, (∀ p ∈ l, val p.2) → (∀ s ∈ q, val s) → ∀ s ∈ l.foldl (fun q p => add q p.2) q, val s
  | [], q, _, hq => hq
  | p :: l, q, hl, hq => step_val Y (l := l) (q := add q p.2) (fun r hr => hl r (List.mem_cons_of_mem _ hr)) fun s hs => by
      unfold add at hs
      split at hs
      · exact hq s hs
      · rcases List.mem_append.mp hs with z | z
        · exact hq s z
        · rw [List.mem_singleton.mp z]; exact hl p List.mem_cons_self
theorem at_nat {α : Type} {l : List α} {n : Nat} (h : n < l.length) : at_ l (n : Int) = some l[n] := by
  unfold at_ ixM
  rw [if_pos (Int.natCast_nonneg n), if_pos (by exact_mod_cast h)]
  show l[(n : Int).toNat]? = _
  rw [Int.toNat_natCast, List.getElem?_eq_getElem h]
theorem Sys.body (Y : Sys P enc first mv val) {q : List S} {n : Nat} {x y : Option O} {μ : Mu} (hn : n < q.length) (hq : ∀ s ∈ q, val s) (hl : q.length ≤ 20000) :
    (20000 < (step mv q q[n]).length → stBody (rs enc mv P first q n x y) μ = .exc ⟨"TooMany", [("number", .int (step mv q q[n]).length)]⟩ μ) ∧
    (¬ 20000 < (step mv q q[n]).length → ∃ x' y', stBody (rs enc mv P first q n x y) μ = .ok (.next (rs enc mv P first (step mv q q[n]) (n + 1) x' y')) μ) := by
  have hv := hq q[n] (List.getElem_mem hn)
  obtain ⟨x', y', e⟩ := Y.turns (at_ := n) (μ := μ) (l := mv q[n]) (q := q) (x := x) (y := y) (Y.v _ hv) hq (by have := Y.few _ hv; omega)
  have hi : Di.val (Dn.idx (Dn.var 2) (Dn.idx (Dn.var 3) (Dn.var 4))) (rs enc mv P first q n x y) μ = .ok ((mv q[n]).map fun p => .tup [p.1, enc p.2]) μ := by
    have e1 : (Dn.idx (Dn.var 3) (Dn.var 4)).v (rs enc mv P first q n x y) μ = .ok (enc q[n]) μ := by
      have z : (Dn.idx (Dn.var 3) (Dn.var 4)).v (rs enc mv P first q n x y) μ = M.some? (at_ (q.map enc) (n : Int)) μ := rfl
      rw [z, at_nat (by rw [List.length_map]; exact hn), List.getElem_map]
      rfl
    have e2 : (Dn.idx (Dn.var 2) (Dn.idx (Dn.var 3) (Dn.var 4))).v (rs enc mv P first q n x y) μ = .ok (mvD enc mv q[n]) μ := by
      refine bnd (m := (Dn.var 2).q _) (a := .slot 2) (μ1 := μ) rfl (bnd (m := (Dn.idx (Dn.var 3) (Dn.var 4)).v _) e1 ?_)
      have z : ∀ k : D, (cont (rs enc mv P first q n x y) (.slot 2) >>= fun c => M.some? (Mp.index c k)) μ = M.some? (if keyOk true k = true then Mp.look (tab enc mv q) k else none) μ := fun k => rfl
      refine (z _).trans ?_
      rw [Y.key _ hv, if_pos rfl]
      unfold tab
      rw [Y.look hv hq, if_pos (List.getElem_mem hn)]
      rfl
    exact bnd (m := (Dn.idx (Dn.var 2) (Dn.idx (Dn.var 3) (Dn.var 4))).v _) e2 rfl
  have hlen : ((step mv q q[n]).map enc).length = (step mv q q[n]).length := List.length_map ..
  have ec : (Dn.cmp .gt (Dn.bi1 .len (Dn.var 3)) (Dn.cst (.int 20000))).t (rs enc mv P first (step mv q q[n]) n x' y') μ = .ok (decide ((20000 : Int) < (step mv q q[n]).length)) μ := by
    have z : (Dn.cmp .gt (Dn.bi1 .len (Dn.var 3)) (Dn.cst (.int 20000))).t (rs enc mv P first (step mv q q[n]) n x' y') μ = .ok (decide ((20000 : Int) < (((step mv q q[n]).map enc).length : Nat))) μ := rfl
    rw [z, hlen]
  constructor
  · intro h
    rw [decide_eq_true (by exact_mod_cast h)] at ec
    refine (sm_cons (sm_for hi e) (sm_consX (sm_t ec ?_)))
    have z : Dm.raise "TooMany" "number" (Dn.bi1 .len (Dn.var 3)) (rs enc mv P first (step mv q q[n]) n x' y') μ = .exc ⟨"TooMany", [("number", .int (((step mv q q[n]).map enc).length : Nat))]⟩ μ := rfl
    exact z.trans (by rw [hlen])
  · intro h
    rw [decide_eq_false (by exact_mod_cast h)] at ec
    exact ⟨x', y', sm_cons (sm_for hi e) (sm_cons (sm_f ec rfl) (sm_asg rfl rfl))⟩
/-! the search, all of it -/
theorem add_pre (q : List S) (t : S) : ∃ r, add q t = q ++ r := by
  unfold add
  split
  · exact ⟨[], (List.append_nil q).symm⟩
  · exact ⟨[t], rfl⟩
theorem add_mem (q : List S) (t : S) : t ∈ add q t := by
  unfold add
  split
  · assumption
  · simp
theorem add_nd {q : List S} {t : S} (h : q.Nodup) : (add q t).Nodup := by
  unfold add
  split
  · exact h
  · rename_i n
    rw [List.nodup_append]
    exact ⟨h, by simp, fun a ha b hb e => by
      rw [List.mem_singleton] at hb
      subst e hb
      exact n ha⟩
theorem fold_pre : ∀ (l : List (D × S)) (q : List S), ∃ r, l.foldl (fun q p => add q p.2) q = q ++ r
  | [], q => ⟨[], (List.append_nil q).symm⟩
  | p :: l, q => by
    obtain ⟨r, e⟩ := add_pre q p.2
    obtain ⟨r2, e2⟩ := fold_pre l (add q p.2)
    exact ⟨r ++ r2, by rw [List.foldl_cons, e2, e, List.append_assoc]⟩
theorem fold_mem : ∀ (l : List (D × S)) (q : List S), ∀ p ∈ l, p.2 ∈ l.foldl (fun q p => add q p.2) q
  | [], q, p, h => by cases h
  | p :: l, q, r, h => by
    rcases List.mem_cons.mp h with e | h
    · subst e
      obtain ⟨z, e⟩ := fold_pre l (add q r.2)
      rw [List.foldl_cons, e]
      exact List.mem_append_left _ (add_mem q r.2)
    · exact fold_mem l (add q p.2) r h
theorem fold_nd : ∀ {l : List (D × S)} {q : List S}, q.Nodup → (l.foldl (fun q p => add q p.2) q).Nodup
  | [], q, h => h
  | p :: l, q, h => fold_nd (l := l) (add_nd h)
def stC : Den := Dn.cmp .lt (Dn.var 4) (Dn.bi1 .len (Dn.var 3))
/-- a closed list of states -/
structure Closed (first : S) (mv : S → List (D × S)) (val : S → Prop) (q : List S) : Prop where
  nd : q.Nodup
  f : first ∈ q
  v : ∀ s ∈ q, val s
  c : ∀ s ∈ q, ∀ p ∈ mv s, p.2 ∈ q
  l : q.length ≤ 20000
theorem Sys.loop (Y : Sys P enc first mv val) {μ : Mu} : ∀ (n : Nat) {q : List S} {a : Nat} {x y : Option O}, q.Nodup → first ∈ q → (∀ s ∈ q, val s) → (∀ s ∈ q.take a, ∀ p ∈ mv s, p.2 ∈ q) → a ≤ q.length → q.length ≤ 20000 → 20001 < n + a →
    (∃ q' : List S, 20000 < q'.length ∧ q'.Nodup ∧ (∀ s ∈ q', val s) ∧ whileM stC.t stBody n (rs enc mv P first q a x y) μ = .exc ⟨"TooMany", [("number", .int (q'.length : Nat))]⟩ μ) ∨
    ∃ q' a' x' y', Closed first mv val q' ∧ whileM stC.t stBody n (rs enc mv P first q a x y) μ = .ok (.next (rs enc mv P first q' a' x' y')) μ
  | 0, q, a, x, y, _, _, _, _, ha, hl, hf => by omega
  | n + 1, q, a, x, y, hn, h1, hv, hc, ha, hl, hf => by
    have ec : stC.t (rs enc mv P first q a x y) μ = .ok (decide ((a : Int) < q.length)) μ := by
      have z : stC.t (rs enc mv P first q a x y) μ = .ok (decide ((a : Int) < ((q.map enc).length : Nat))) μ := rfl
      rw [z, List.length_map]
    by_cases e : a < q.length
    · rw [decide_eq_true (by exact_mod_cast e)] at ec
      obtain ⟨b1, b2⟩ := Y.body (x := x) (y := y) (μ := μ) e hv hl
      by_cases big : 20000 < (step mv q q[a]).length
      · exact .inl ⟨step mv q q[a], big, fold_nd hn, step_val Y (Y.v _ (hv _ (List.getElem_mem e))) hv, while_x ec (b1 big)⟩
      · obtain ⟨x', y', eb⟩ := b2 big
        obtain ⟨r, er⟩ := fold_pre (mv q[a]) q
        have er : step mv q q[a] = q ++ r := er
        have hlen : q.length ≤ (step mv q q[a]).length := by rw [er, List.length_append]; omega
        have go := Y.loop (μ := μ) n (q := step mv q q[a]) (a := a + 1) (x := x') (y := y') (fold_nd hn) (by rw [er]; exact List.mem_append_left _ h1) (step_val Y (Y.v _ (hv _ (List.getElem_mem e))) hv) (fun s hs p hp => by
            rw [er, List.take_append_of_le_length (by omega), List.take_succ_eq_append_getElem e] at hs
            rcases List.mem_append.mp hs with z | z
            · rw [er]; exact List.mem_append_left _ (hc s z p hp)
            · rw [List.mem_singleton.mp z] at hp
              exact fold_mem _ q p hp) (by omega) (by omega) (by omega)
        rcases go with ⟨q', g1, g2, g3, g4⟩ | ⟨q', a', x2, y2, g1, g2⟩
        · exact .inl ⟨q', g1, g2, g3, while_t ec eb g4⟩
        · exact .inr ⟨q', a', x2, y2, g1, while_t ec eb g2⟩
    · rw [decide_eq_false (by exact_mod_cast e)] at ec
      have ea : a = q.length := by omega
      refine .inr ⟨q, a, x, y, ⟨hn, h1, hv, fun s hs p hp => hc s (by rw [ea, List.take_length]; exact hs) p hp, hl⟩, while_f ec⟩
theorem Sys.states (Y : Sys P enc first mv val) (μ : Mu) :
    (∃ q' : List S, 20000 < q'.length ∧ q'.Nodup ∧ (∀ s ∈ q', val s) ∧ d_states_of [P] μ = .exc ⟨"TooMany", [("number", .int (q'.length : Nat))]⟩ μ) ∨
    ∃ q', Closed first mv val q' ∧ d_states_of [P] μ = .ok (.dct true (tab enc mv q')) μ := by
  have h0 : ∀ {R : Res Out}, (Dm.cons (Dm.while_ 30000 stC stBody) (Dm.cons (Dm.frz 2) (Dm.ret (Dn.var 2)))) (rs enc mv P first [first] 0 none none) μ = R → b_states_of (Mp.start 7 [P]) μ = R := fun {R} h => by
    refine sm_cons (ρ1 := Mp.start 7 [P]) (sm_drop (dn_call rfl (Y.chk μ))) ?_
    refine sm_cons (sm_asg (dn_call rfl (Y.fst μ)) rfl) ?_
    have ed : (Dn.dct true [(false, Dn.var 1)] [(false, Dn.call d_all_moves [(false, Dn.var 0), (false, Dn.var 1)])]).v [some (.dat P), some (.dat (enc first)), none, none, none, none, none] μ = .ok (.dct true (tab enc mv [first])) μ := by
      have em : (Dn.call d_all_moves [(false, Dn.var 0), (false, Dn.var 1)]).v [some (.dat P), some (.dat (enc first)), none, none, none, none, none] μ = .ok (mvD enc mv first) μ := dn_call rfl (Y.mvs first Y.f μ)
      have ep : evP [some (.dat P), some (.dat (enc first)), none, none, none, none, none] true [(false, Dn.var 1)] [(false, Dn.call d_all_moves [(false, Dn.var 0), (false, Dn.var 1)])] μ = .ok [(enc first, mvD enc mv first)] μ := by
        refine bnd (m := (Dn.var 1).v _) (a := enc first) (μ1 := μ) rfl (bnd (m := (Dn.call d_all_moves [(false, Dn.var 0), (false, Dn.var 1)]).v _) em ?_)
        refine bnd (m := evP _ true [] []) (a := []) (μ1 := μ) rfl ?_
        rw [Y.key first Y.f]
        rfl
      exact bnd (m := noExc (evP _ true _ _)) (noExc_eq ep) rfl
    refine sm_cons (sm_own ed rfl) ?_
    refine sm_cons (sm_own (d := .lst [enc first]) rfl rfl) ?_
    exact sm_cons (sm_asg (d := .int 0) rfl rfl) h
  rcases Y.loop (μ := μ) 30000 (q := [first]) (a := 0) (x := none) (y := none) (by simp) (by simp) (fun s hs => by rw [List.mem_singleton.mp hs]; exact Y.f) (fun s hs => by simp at hs) (by simp) (by simp) (by omega) with ⟨q', g1, g2, g3, g4⟩ | ⟨q', a', x', y', g1, g2⟩
  · exact .inl ⟨q', g1, g2, g3, fn_exc rfl (h0 (sm_consX g4))⟩
  · refine .inr ⟨q', g1, fn_ret rfl (h0 (sm_cons g2 ?_))⟩
    exact sm_cons (ρ1 := [some (.dat P), some (.dat (enc first)), some (.dat (.dct true (tab enc mv q'))), some (.own (.lst (q'.map enc))), some (.dat (.int a')), x', y']) rfl (sm_ret rfl)
/-- all states, told one by one -/
structure Alls (first : S) (mv : S → List (D × S)) (val : S → Prop) (All : List S) : Prop where
  nd : All.Nodup
  m : ∀ s, val s ↔ s ∈ All
  r : ∀ C : S → Prop, C first → (∀ s, val s → C s → ∀ p ∈ mv s, C p.2) → ∀ s, val s → C s
theorem len_le {α : Type} [DecidableEq α] : ∀ {l m : List α}, l.Nodup → (∀ x ∈ l, x ∈ m) → l.length ≤ m.length
  | [], m, _, _ => Nat.zero_le _
  | x :: l, m, h, k => by
    cases h with
    | cons h1 h2 =>
      have ih := len_le (l := l) (m := m.erase x) h2 fun y hy => (List.mem_erase_of_ne (fun z => h1 y hy z.symm)).mpr (k y (List.mem_cons_of_mem _ hy))
      have hx := k x List.mem_cons_self
      rw [List.length_erase_of_mem hx] at ih
      have : 0 < m.length := List.length_pos_of_mem hx
      rw [List.length_cons]
      omega
theorem Closed.all {q All : List S} (c : Closed first mv val q) (A : Alls first mv val All) : ∀ s, val s → s ∈ q := A.r (fun s => s ∈ q) c.f fun s _ hs p hp => c.c s hs p hp
theorem Closed.len {q All : List S} (c : Closed first mv val q) (A : Alls first mv val All) : q.length = All.length :=
  Nat.le_antisymm (len_le c.nd fun s hs => (A.m s).mp (c.v s hs)) (len_le A.nd fun s hs => c.all A s ((A.m s).mpr hs))
theorem Sys.few_states (Y : Sys P enc first mv val) {All : List S} (A : Alls first mv val All) (h : All.length ≤ 20000) (μ : Mu) : ∃ q', Closed first mv val q' ∧ q'.length = All.length ∧ d_states_of [P] μ = .ok (.dct true (tab enc mv q')) μ := by
  rcases Y.states μ with ⟨q', g1, g2, g3, g4⟩ | ⟨q', g1, g2⟩
  · have := len_le g2 (m := All) fun s hs => (A.m s).mp (g3 s hs)
    omega
  · exact ⟨q', g1, g1.len A, g2⟩
theorem Sys.many_states (Y : Sys P enc first mv val) {All : List S} (A : Alls first mv val All) (h : 20000 < All.length) (μ : Mu) : ∃ k : Nat, 20000 < k ∧ d_states_of [P] μ = .exc ⟨"TooMany", [("number", .int (k : Nat))]⟩ μ := by
  rcases Y.states μ with ⟨q', g1, g2, g3, g4⟩ | ⟨q', g1, g2⟩
  · exact ⟨_, g1, g4⟩
  · have := g1.len A
    have := g1.l
    omega
theorem Sys.count (Y : Sys P enc first mv val) {All : List S} (A : Alls first mv val All) (h : All.length ≤ 20000) (μ : Mu) : d_many_states [P] μ = .ok (.int (All.length : Nat)) μ := by
  obtain ⟨q', _, e1, e2⟩ := Y.few_states A h μ
  refine fn_ret rfl (sm_ret ?_)
  have e3 : (Dn.call d_states_of [(false, Dn.var 0)]).q (Mp.start 1 [P]) μ = .ok (.val (.dct true (tab enc mv q'))) μ := bnd (m := (Dn.call d_states_of [(false, Dn.var 0)]).v _) (dn_call rfl e2) rfl
  refine bnd (m := (Dn.call d_states_of [(false, Dn.var 0)]).q _) e3 ?_
  show Res.ok (D.int ((tab enc mv q').length : Nat)) μ = _
  rw [tabLen, e1]
end
end Kt

/-! k18: layers of counts, and Scripts made (own work). -/
namespace Kt
open PySem Mp

theorem compM_map {A α : Type} {F : D → M (Option α)} {i : A → D} {g : A → α} {μ : Mu} : ∀ {l : List A}, (∀ a ∈ l, F (i a) μ = .ok (some (g a)) μ) → compM F (l.map i) μ = .ok (l.map g) μ
  | [], _ => rfl
  | a :: l, h => bnd (m := F (i a)) (h a List.mem_cons_self) (bnd (m := compM F (l.map i)) (compM_map fun b hb => h b (List.mem_cons_of_mem _ hb)) rfl)
theorem range1_ok {m : Nat} (h : m ≤ 1000000) : Mp.range1 (.int m) = some (rangeL 0 1 m) := by
  simp only [Mp.range1]
  rw [if_pos ⟨by omega, by omega⟩, Int.toNat_natCast]
theorem mul_ok {i : Int} {m : Nat} (h : m ≤ 1000000) : binop .mul (.int i) (.int m) = some (.int (i * m)) := by
  have k : small (m : Int) = true := by
    unfold small
    rw [decide_eq_true (by omega), decide_eq_true (by omega)]
    rfl
  simp only [binop, k, Bool.or_true, if_true]
theorem at_neg {α : Type} {l : List α} {x : α} : at_ (l ++ [x]) (-1) = some x := by
  unfold at_ ixM
  rw [if_neg (by omega), if_pos (by rw [List.length_append]; simp; omega)]
  show (l ++ [x])[(-1 + ((l ++ [x]).length : Int)).toNat]? = _
  have e : (-1 + ((l ++ [x]).length : Int)).toNat = l.length := by rw [List.length_append]; simp; omega
  rw [e, List.getElem?_concat_length]
theorem bi1_v {b : Bi} {a : Den} {ρ : Rho} {μ μ1 : Mu} {x c d : D} (h : a.v ρ μ = .ok x μ1) (hq : a.q = fun ρ => do
    let d ← a.v ρ
    M.ret (.val d)) (hc : content x = M.ret c) (hb : bfun b [c] = some d) : (Dn.bi1 b a).v ρ μ = .ok d μ1 := by
  have eq : a.q ρ μ = .ok (.val x) μ1 := by rw [hq]; exact bnd (m := a.v ρ) h rfl
  refine bnd (m := a.q ρ) eq ?_
  refine bnd (m := cont ρ (.val x)) (a := c) (μ1 := μ1) (by show content x μ1 = _; rw [hc]; rfl) ?_
  rw [hb]
  rfl
section
variable {S : Type} [DecidableEq S] {P : D} {enc : S → D} {first : S} {mv : S → List (D × S)} {val : S → Prop}
def cnt (mv : S → List (D × S)) : Nat → S → Nat
  | 0, _ => 1
  | j + 1, s => ((mv s).map fun p => cnt mv j p.2).sum
def lay (enc : S → D) (mv : S → List (D × S)) (q : List S) (j : Nat) : D := .dct true (q.map fun s => (enc s, .int (cnt mv j s : Nat)))
theorem ints_map {A : Type} (g : A → Nat) : ∀ l : List A, intsOf (l.map fun a => .int (g a : Nat)) = some (l.map fun a => (g a : Int))
  | [] => rfl
  | a :: l => by
    show (intsOf (l.map fun a => .int (g a : Nat))).map ((g a : Int) :: ·) = _
    rw [ints_map g l]
    rfl
theorem sum_cast {A : Type} (g : A → Nat) : ∀ l : List A, (l.map fun a => (g a : Int)).sum = ((l.map g).sum : Nat)
  | [] => rfl
  | a :: l => by
    rw [List.map_cons, List.sum_cons, sum_cast g l, List.map_cons, List.sum_cons]
    omega
theorem Sys.putAll (Y : Sys P enc first mv val) (g : S → D) : ∀ {r a : List S}, (∀ s ∈ a ++ r, val s) → (a ++ r).Nodup → Mp.putAll (a.map fun s => (enc s, g s)) (r.map fun s => (enc s, g s)) = (a ++ r).map fun s => (enc s, g s)
  | [], a, _, _ => by rw [List.append_nil]; rfl
  | s :: r, a, h, n => by
    have e : a ++ s :: r = (a ++ [s]) ++ r := by simp
    have hn : s ∉ a := fun m => by
      rw [List.nodup_append] at n
      exact n.2.2 s m s List.mem_cons_self rfl
    show Mp.putAll (Mp.put (a.map fun s => (enc s, g s)) (enc s) (g s)) (r.map fun s => (enc s, g s)) = _
    rw [Y.put (g := g) (h s (by simp)) (fun x hx => h x (List.mem_append_left _ hx)) hn, e]
    exact Y.putAll g (r := r) (a := a ++ [s]) (by rw [← e]; exact h) (by rw [← e]; exact n)
/-- a dict over the states, made by a comprehension -/
theorem Sys.dcs (Y : Sys P enc first mv val) {q : List S} (c : Closed first mv val q) {it : Rho → M (List D)} {ρ : Rho} {μ : Mu} {x : Den} {i : Nat} {g : S → D} (hit : it ρ μ = .ok (q.map enc) μ)
    (hi : i < ρ.length) (hx : ∀ s ∈ q, x.v ((wipe ρ [i]).set i (some (.dat (enc s)))) μ = .ok (g s) μ) :
    (Dn.dc true [i] (.name i) it [] (Dn.var i) x).v ρ μ = .ok (.dct true (q.map fun s => (enc s, g s))) μ := by
  have hl : (q.map enc).length ≤ line := by rw [List.length_map]; have := c.l; unfold line; omega
  refine bnd (m := it ρ) hit (bnd (m := sized (q.map enc)) (a := ()) (μ1 := μ) (by unfold sized; rw [if_pos hl]; rfl) ?_)
  refine bnd (m := compM _ (q.map enc)) (compM_map (i := enc) (g := fun s => (enc s, g s)) fun s hs => noExc_eq ?_) ?_
  · refine bnd (m := M.some? (assign (wipe ρ [i]) (.name i) (enc s))) (a := (wipe ρ [i]).set i (some (.dat (enc s)))) (μ1 := μ) rfl ?_
    refine bnd (m := evIfs _ []) (a := true) (μ1 := μ) rfl ?_
    have hv : (Dn.var i).v ((wipe ρ [i]).set i (some (.dat (enc s)))) μ = .ok (enc s) μ := by
      show valOf _ i μ = _
      unfold valOf
      have e : ((wipe ρ [i]).set i (some (O.dat (enc s))))[i]? = some (some (.dat (enc s))) := by
        show ((ρ.set i none).set i (some (O.dat (enc s))))[i]? = _
        rw [List.getElem?_set_self (by rw [List.length_set]; exact hi)]
      rw [e]
      rfl
    refine bnd (m := (Dn.var i).v _) hv (bnd (m := x.v _) (hx s hs) ?_)
    rw [Y.key s (c.v s hs)]
    rfl
  · show Res.ok (D.dct true (Mp.putAll [] (q.map fun s => (enc s, g s)))) μ = _
    have := Y.putAll g (r := q) (a := []) (fun s hs => c.v s (by simpa using hs)) (by simpa using c.nd)
    rw [List.nil_append] at this
    exact congrArg (fun l => Res.ok (D.dct true l) μ) this
/-- the graph, as a value -/
def gr (enc : S → D) (mv : S → List (D × S)) (q : List S) : D := .dct true (tab enc mv q)
theorem gr_keys (q : List S) : (tab enc mv q).map (·.1) = q.map enc := by
  unfold tab
  rw [List.map_map]
  rfl
theorem Sys.layer0 (Y : Sys P enc first mv val) {q : List S} (c : Closed first mv val q) {ρ : Rho} {μ : Mu} {x y o0 o2 o3 : Option O} {r : Rho} (hρ : ρ = o0 :: some (.dat (gr enc mv q)) :: o2 :: o3 :: r) :
    (Dn.dc true [3] (.name 3) (Di.val (Dn.var 1)) [] (Dn.var 3) (Dn.cst (.int 1))).v ρ μ = .ok (lay enc mv q 0) μ := by
  subst hρ
  refine Y.dcs c (g := fun s => .int (cnt mv 0 s : Nat)) ?_ (by simp) fun s hs => rfl
  refine bnd (m := (Dn.var 1).v _) (a := gr enc mv q) (μ1 := μ) rfl ?_
  show Res.ok ((tab enc mv q).map (·.1)) μ = _
  rw [gr_keys]
theorem Sys.layer (Y : Sys P enc first mv val) {q : List S} (c : Closed first mv val q) {μ : Mu} {o0 o2 o3 o4 o6 o7 : Option O} {j : Nat} :
    (Dn.dc true [3] (.name 3) (Di.val (Dn.var 1)) [] (Dn.var 3) (Dn.bi1 .sum (Dn.lc [6, 7] (.names [6, 7]) (Di.val (Dn.idx (Dn.var 1) (Dn.var 3))) [] (Dn.idx (Dn.var 5) (Dn.var 7))))).v [o0, some (.dat (gr enc mv q)), o2, o3, o4, some (.dat (lay enc mv q j)), o6, o7] μ = .ok (lay enc mv q (j + 1)) μ := by
  refine Y.dcs c (g := fun s => .int (cnt mv (j + 1) s : Nat)) ?_ (by simp) fun s hs => ?_
  · refine bnd (m := (Dn.var 1).v _) (a := gr enc mv q) (μ1 := μ) rfl ?_
    show Res.ok ((tab enc mv q).map (·.1)) μ = _
    rw [gr_keys]
  · have hv := c.v s hs
    have h1 : (Dn.lc [6, 7] (.names [6, 7]) (Di.val (Dn.idx (Dn.var 1) (Dn.var 3))) [] (Dn.idx (Dn.var 5) (Dn.var 7))).v [o0, some (.dat (gr enc mv q)), o2, some (.dat (enc s)), o4, some (.dat (lay enc mv q j)), o6, o7] μ = .ok (.lst ((mv s).map fun p => .int (cnt mv j p.2 : Nat))) μ := by
      have hit : Di.val (Dn.idx (Dn.var 1) (Dn.var 3)) [o0, some (.dat (gr enc mv q)), o2, some (.dat (enc s)), o4, some (.dat (lay enc mv q j)), o6, o7] μ = .ok ((mv s).map fun p => .tup [p.1, enc p.2]) μ := by
        have e : (Dn.idx (Dn.var 1) (Dn.var 3)).v [o0, some (.dat (gr enc mv q)), o2, some (.dat (enc s)), o4, some (.dat (lay enc mv q j)), o6, o7] μ = .ok (mvD enc mv s) μ := by
          have z : (Dn.idx (Dn.var 1) (Dn.var 3)).v [o0, some (.dat (gr enc mv q)), o2, some (.dat (enc s)), o4, some (.dat (lay enc mv q j)), o6, o7] μ = M.some? (if keyOk true (enc s) = true then Mp.look (tab enc mv q) (enc s) else none) μ := rfl
          rw [z, Y.key s hv, if_pos rfl]
          unfold tab
          rw [Y.look hv c.v, if_pos hs]
          rfl
        exact bnd (m := (Dn.idx (Dn.var 1) (Dn.var 3)).v _) e rfl
      have hl : ((mv s).map fun p => D.tup [p.1, enc p.2]).length ≤ line := by rw [List.length_map]; have := Y.few s hv; unfold line; omega
      refine bnd (m := Di.val (Dn.idx (Dn.var 1) (Dn.var 3)) _) hit (bnd (m := sized _) (a := ()) (μ1 := μ) (by unfold sized; rw [if_pos hl]; rfl) ?_)
      refine bnd (m := compM _ _) (compM_map (i := fun p : D × S => .tup [p.1, enc p.2]) (g := fun p => .int (cnt mv j p.2 : Nat)) fun p hp => noExc_eq ?_) rfl
      refine bnd (m := M.some? (assign _ (.names [6, 7]) (.tup [p.1, enc p.2]))) (a := [o0, some (.dat (gr enc mv q)), o2, some (.dat (enc s)), o4, some (.dat (lay enc mv q j)), some (.dat p.1), some (.dat (enc p.2))]) (μ1 := μ) rfl ?_
      refine bnd (m := evIfs _ []) (a := true) (μ1 := μ) rfl ?_
      have hq := c.c s hs p hp
      have e : (Dn.idx (Dn.var 5) (Dn.var 7)).v [o0, some (.dat (gr enc mv q)), o2, some (.dat (enc s)), o4, some (.dat (lay enc mv q j)), some (.dat p.1), some (.dat (enc p.2))] μ = .ok (.int (cnt mv j p.2 : Nat)) μ := by
        have z : (Dn.idx (Dn.var 5) (Dn.var 7)).v [o0, some (.dat (gr enc mv q)), o2, some (.dat (enc s)), o4, some (.dat (lay enc mv q j)), some (.dat p.1), some (.dat (enc p.2))] μ = M.some? (if keyOk true (enc p.2) = true then Mp.look (q.map fun s => (enc s, .int (cnt mv j s : Nat))) (enc p.2) else none) μ := rfl
        rw [z, Y.key _ (c.v _ hq), if_pos rfl, Y.look (g := fun s => .int (cnt mv j s : Nat)) (c.v _ hq) c.v, if_pos hq]
        rfl
      exact bnd (m := (Dn.idx (Dn.var 5) (Dn.var 7)).v _) e rfl
    refine bi1_v h1 rfl rfl ?_
    show (intsOf ((mv s).map fun p => .int (cnt mv j p.2 : Nat))).map (fun i => D.int i.sum) = _
    rw [ints_map (fun p : D × S => cnt mv j p.2), Option.map_some, sum_cast]
    rfl
/-! all layers -/
def lays (enc : S → D) (mv : S → List (D × S)) (q : List S) (k : Nat) : List D := (List.range (k + 1)).map (lay enc mv q)
theorem lays_succ (q : List S) (k : Nat) : lays enc mv q (k + 1) = lays enc mv q k ++ [lay enc mv q (k + 1)] := by
  unfold lays
  rw [List.range_succ, List.map_append]
  rfl
theorem lays_last (q : List S) (k : Nat) : at_ (lays enc mv q k) (-1) = some (lay enc mv q k) := by
  unfold lays
  rw [List.range_succ, List.map_append]
  exact at_neg
theorem lays_len (q : List S) (k : Nat) : (lays enc mv q k).length = k + 1 := by unfold lays; simp
theorem lays_at (q : List S) {k j : Nat} (h : j ≤ k) : at_ (lays enc mv q k) (j : Int) = some (lay enc mv q j) := by
  rw [at_nat (by rw [lays_len]; omega)]
  unfold lays
  simp
def alBody : Sm := Dm.cons (Dm.asg (.name 5) (Dn.idx (Dn.var 2) (Dn.neg (Dn.cst (.int 1))))) (Dm.app 2 (Dn.dc true [3] (.name 3) (Di.val (Dn.var 1)) [] (Dn.var 3) (Dn.bi1 .sum (Dn.lc [6, 7] (.names [6, 7]) (Di.val (Dn.idx (Dn.var 1) (Dn.var 3))) [] (Dn.idx (Dn.var 5) (Dn.var 7))))))
theorem Sys.alFor (Y : Sys P enc first mv val) {q : List S} (c : Closed first mv val q) {μ : Mu} {o0 o3 o6 o7 : Option O} : ∀ (n : Nat) {k : Nat} {a : Int} {o4 o5 : Option O}, k + n ≤ 1000 →
    ∃ x4 x5, forM [o0, some (.dat (gr enc mv q)), some (.own (.lst (lays enc mv q k))), o3, o4, o5, o6, o7] (.name 4) alBody (rangeL a 1 n) μ = .ok (.next [o0, some (.dat (gr enc mv q)), some (.own (.lst (lays enc mv q (k + n)))), o3, x4, x5, o6, o7]) μ
  | 0, k, a, o4, o5, _ => ⟨o4, o5, rfl⟩
  | n + 1, k, a, o4, o5, h => by
    obtain ⟨x4, x5, e⟩ := Y.alFor c (μ := μ) (o0 := o0) (o3 := o3) (o6 := o6) (o7 := o7) n (k := k + 1) (a := a + 1) (o4 := some (.dat (.int a))) (o5 := some (.dat (lay enc mv q k))) (by omega)
    have ek : k + 1 + n = k + (n + 1) := by omega
    rw [ek] at e
    refine ⟨x4, x5, for_cons (ρ1 := [o0, some (.dat (gr enc mv q)), some (.own (.lst (lays enc mv q k))), o3, some (.dat (.int a)), o5, o6, o7]) (ρ2 := [o0, some (.dat (gr enc mv q)), some (.own (.lst (lays enc mv q (k + 1)))), o3, some (.dat (.int a)), some (.dat (lay enc mv q k)), o6, o7]) rfl ?_ e⟩
    have hi : (Dn.idx (Dn.var 2) (Dn.neg (Dn.cst (.int 1)))).v [o0, some (.dat (gr enc mv q)), some (.own (.lst (lays enc mv q k))), o3, some (.dat (.int a)), o5, o6, o7] μ = .ok (lay enc mv q k) μ := by
      have z : (Dn.idx (Dn.var 2) (Dn.neg (Dn.cst (.int 1)))).v [o0, some (.dat (gr enc mv q)), some (.own (.lst (lays enc mv q k))), o3, some (.dat (.int a)), o5, o6, o7] μ = M.some? (at_ (lays enc mv q k) (-1)) μ := rfl
      rw [z, lays_last]
      rfl
    refine sm_cons (sm_asg hi rfl) ((sm_app (i := 2) (l := lays enc mv q k) rfl (Y.layer c) (by rw [lays_len]; unfold line; omega)).trans ?_)
    rw [lays_succ]
    rfl
theorem Sys.allLayers (Y : Sys P enc first mv val) {q : List S} (c : Closed first mv val q) {μ : Mu} {self : D} {fl : List (String × D)} {m : Nat} (hc : content self μ = .ok (.obj "Scripts" fl) μ) (hf : fl.lookup "own_moves" = some (.int m)) (hm : m ≤ 1000) :
    d_Scripts_all_layers [self, gr enc mv q] μ = .ok (.lst (lays enc mv q m)) μ := by
  refine fn_ret rfl ?_
  refine sm_cons (μ1 := μ) (ρ1 := [some (.dat self), some (.dat (gr enc mv q)), some (.own (.lst (lays enc mv q 0))), none, none, none, none, none]) (sm_own (d := .lst (lays enc mv q 0)) ?_ rfl) ?_
  · have e : evs (Mp.start 8 [self, gr enc mv q]) [(false, Dn.dc true [3] (.name 3) (Di.val (Dn.var 1)) [] (Dn.var 3) (Dn.cst (.int 1)))] μ = .ok [lay enc mv q 0] μ :=
      bnd (m := (Dn.dc true [3] (.name 3) (Di.val (Dn.var 1)) [] (Dn.var 3) (Dn.cst (.int 1))).v _) (Y.layer0 c (o0 := some (.dat self)) (o2 := none) (o3 := none) (x := none) (y := none) (r := [none, none, none, none]) rfl) rfl
    exact bnd (m := evs _ _) e rfl
  · have hr : Di.range1 (Dn.attr "Scripts" (Dn.var 0) "own_moves") [some (.dat self), some (.dat (gr enc mv q)), some (.own (.lst (lays enc mv q 0))), none, none, none, none, none] μ = .ok (rangeL 0 1 m) μ := by
      have ha : (Dn.attr "Scripts" (Dn.var 0) "own_moves").v [some (.dat self), some (.dat (gr enc mv q)), some (.own (.lst (lays enc mv q 0))), none, none, none, none, none] μ = .ok (.int m) μ := by
        refine bnd (m := (Dn.var 0).v _) (a := self) (μ1 := μ) rfl (bnd (m := content self) hc ?_)
        show (if "Scripts" = "Scripts" then M.some? (fl.lookup "own_moves") else M.bad) μ = _
        rw [if_pos rfl, hf]
        rfl
      refine bnd (m := (Dn.attr "Scripts" (Dn.var 0) "own_moves").v _) ha ?_
      show M.some? (Mp.range1 (.int m)) μ = _
      rw [range1_ok (by omega)]
      rfl
    obtain ⟨x4, x5, e⟩ := Y.alFor c (μ := μ) (o0 := some (.dat self)) (o3 := none) (o6 := none) (o7 := none) m (k := 0) (a := 0) (o4 := none) (o5 := none) (by omega)
    rw [Nat.zero_add] at e
    refine sm_cons (sm_for hr e) ?_
    exact sm_cons (ρ1 := [some (.dat self), some (.dat (gr enc mv q)), some (.dat (.lst (lays enc mv q m))), none, x4, x5, none, none]) rfl (sm_ret rfl)
/-! Scripts -/
theorem within_ok {i a b : Int} {μ : Mu} (h : a ≤ i) (k : i ≤ b) : d_is_within [.int i, .int a, .int b] μ = .ok (.bl true) μ := by
  refine fn_ret rfl (sm_ret ?_)
  have e : (Dn.and_ [(false, Dn.call d_is_integer [(false, Dn.var 0)]), (false, Dn.chain .le .le (Dn.var 1) (Dn.var 0) (Dn.var 2))]).v (Mp.start 3 [.int i, .int a, .int b]) μ = (Dn.chain .le .le (Dn.var 1) (Dn.var 0) (Dn.var 2)).v (Mp.start 3 [.int i, .int a, .int b]) μ := rfl
  rw [e]
  refine bnd (m := (Dn.var 1).v _) (a := .int a) (μ1 := μ) rfl (bnd (m := (Dn.var 0).v _) (a := .int i) (μ1 := μ) rfl (bnd (m := M.some? (cmpop .le (.int a) (.int i))) (a := true) (μ1 := μ) ?_ ?_))
  · show M.some? (some (decide (a ≤ i))) μ = _
    rw [decide_eq_true h]; rfl
  · refine bnd (m := (Dn.var 2).v _) (a := .int b) (μ1 := μ) rfl ?_
    show Res.ok (D.bl (decide (i ≤ b))) μ = _
    rw [decide_eq_true k]
theorem setA_last {c f : String} {v : D} {l : List (String × D)} {μ : Mu} (h : l.length < 900) : setAMu c f v (.loc μ.length) (μ ++ [some (.obj c l)]) = .ok () (μ ++ [some (.obj c (putS l f v))]) := by
  unfold setAMu
  simp [h]
theorem content_last {d : D} {μ : Mu} : content (.loc μ.length) (μ ++ [some d]) = .ok d (μ ++ [some d]) := by
  unfold content
  simp
theorem sm_setA {c f : String} {e v : Den} {ρ : Rho} {μ0 : Mu} {l : List (String × D)} {y : D} (hv : v.v ρ (μ0 ++ [some (.obj c l)]) = .ok y (μ0 ++ [some (.obj c l)])) (he : e.v ρ (μ0 ++ [some (.obj c l)]) = .ok (.loc μ0.length) (μ0 ++ [some (.obj c l)])) (h : l.length < 900) :
    Dm.setA c e f v ρ (μ0 ++ [some (.obj c l)]) = .ok (.next ρ) (μ0 ++ [some (.obj c (putS l f y))]) :=
  bnd (m := v.v ρ) hv (bnd (m := e.v ρ) he (bnd (m := setAMu c f y (.loc μ0.length)) (setA_last h) rfl))
theorem sm_setAX {c f : String} {e v : Den} {ρ : Rho} {μ μ1 : Mu} {x : Xn} (hv : v.v ρ μ = .exc x μ1) : Dm.setA c e f v ρ μ = .exc x μ1 := bndX (m := v.v ρ) hv
def scF (P : D) (m : Nat) (f : D) : List (String × D) := [("own_program", P), ("own_moves", .int m), ("own_first", f)]
def SC (enc : S → D) (mv : S → List (D × S)) (first : S) (P : D) (q : List S) (m : Nat) : D := .obj "Scripts" [("own_program", P), ("own_moves", .int m), ("own_first", enc first), ("layers", .lst (lays enc mv q m))]
theorem Sys.init (Y : Sys P enc first mv val) {μ0 : Mu} {m : Nat} (hm : m ≤ 1000) {R : Res Out}
    (h : Dm.setA "Scripts" (Dn.var 0) "layers" (Dn.meth "Scripts" "all_layers" d_Scripts_all_layers (Dn.var 0) [(false, Dn.call d_small_enough [(false, Dn.call d_states_of [(false, Dn.var 1)]), (false, Dn.var 2)])]) [some (.dat (.loc μ0.length)), some (.dat P), some (.dat (.int m))] (μ0 ++ [some (.obj "Scripts" (scF P m (enc first)))]) = R) :
    b_Scripts___init__ (Mp.start 3 [.loc μ0.length, P, .int m]) (μ0 ++ [some (.obj "Scripts" [])]) = R := by
  refine sm_cons (sm_drop (dn_call rfl (Y.chk _))) ?_
  refine sm_cons (μ1 := μ0 ++ [some (.obj "Scripts" [])]) (sm_f (μ1 := μ0 ++ [some (.obj "Scripts" [])]) ?_ rfl) ?_
  · have e : (Dn.call d_is_within [(false, Dn.var 2), (false, Dn.cst (.int 0)), (false, Dn.cst (.int 1000))]).v (Mp.start 3 [.loc μ0.length, P, .int m]) (μ0 ++ [some (.obj "Scripts" [])]) = .ok (.bl true) (μ0 ++ [some (.obj "Scripts" [])]) := dn_call rfl (within_ok (by omega) (by omega))
    have et : (Dn.call d_is_within [(false, Dn.var 2), (false, Dn.cst (.int 0)), (false, Dn.cst (.int 1000))]).t (Mp.start 3 [.loc μ0.length, P, .int m]) (μ0 ++ [some (.obj "Scripts" [])]) = .ok true (μ0 ++ [some (.obj "Scripts" [])]) := bnd (m := (Dn.call d_is_within _).v _) e rfl
    exact bnd (m := (Dn.call d_is_within _).t _) et rfl
  refine sm_cons (sm_setA (l := []) (y := P) rfl rfl (by simp)) ?_
  refine sm_cons (sm_setA (l := [("own_program", P)]) (y := .int m) rfl rfl (by simp)) ?_
  refine sm_cons (sm_setA (l := [("own_program", P), ("own_moves", .int m)]) (y := enc first) (dn_call rfl (Y.fst _)) rfl (by simp)) ?_
  exact h
theorem mul_v {l : List (D × D)} {m : Nat} {μ : Mu} (hm : m ≤ 1000) : (Dn.bin .mul (Dn.bi1 .len (Dn.var 0)) (Dn.var 1)).v [some (.dat (.dct true l)), some (.dat (.int m))] μ = .ok (.int ((l.length * m : Nat) : Int)) μ := by
  rw [Int.natCast_mul]
  exact bin_v (qa := .val (.int l.length)) (qb := .val (.int m)) rfl rfl rfl rfl (mul_ok (by omega))
theorem small_ok {l : List (D × D)} {m : Nat} {μ : Mu} (hm : m ≤ 1000) (h : l.length * m ≤ 200000) : d_small_enough [.dct true l, .int m] μ = .ok (.dct true l) μ := by
  refine fn_ret rfl (sm_cons (μ1 := μ) (sm_f (μ1 := μ) ?_ rfl) (sm_ret rfl))
  have e : (Dn.bin .mul (Dn.bi1 .len (Dn.var 0)) (Dn.var 1)).q (Mp.start 2 [.dct true l, .int m]) μ = .ok (.val (.int ((l.length * m : Nat) : Int))) μ := bnd (m := (Dn.bin _ _ _).v _) (mul_v hm) rfl
  refine bnd (m := (Dn.bin .mul (Dn.bi1 .len (Dn.var 0)) (Dn.var 1)).q _) e ?_
  show Res.ok (decide ((200000 : Int) < ((l.length * m : Nat) : Int))) μ = _
  rw [decide_eq_false (by omega)]
theorem small_big {l : List (D × D)} {m : Nat} {μ : Mu} (hm : m ≤ 1000) (h : 200000 < l.length * m) : d_small_enough [.dct true l, .int m] μ = .exc ⟨"TooMany", [("number", .int ((l.length * m : Nat) : Int))]⟩ μ := by
  refine fn_exc rfl (sm_consX (sm_t (μ1 := μ) ?_ ?_))
  · have e : (Dn.bin .mul (Dn.bi1 .len (Dn.var 0)) (Dn.var 1)).q (Mp.start 2 [.dct true l, .int m]) μ = .ok (.val (.int ((l.length * m : Nat) : Int))) μ := bnd (m := (Dn.bin _ _ _).v _) (mul_v hm) rfl
    refine bnd (m := (Dn.bin .mul (Dn.bi1 .len (Dn.var 0)) (Dn.var 1)).q _) e ?_
    show Res.ok (decide ((200000 : Int) < ((l.length * m : Nat) : Int))) μ = _
    rw [decide_eq_true (by omega)]
  · exact bnd (m := (Dn.bin .mul (Dn.bi1 .len (Dn.var 0)) (Dn.var 1)).v _) (mul_v hm) rfl
/-- Scripts(..), taken as it stands from then on -/
def mkS (P : D) (m : Nat) : M D := makeM "Scripts" d_Scripts___init__ [P, .int m] >>= frzM
theorem fn_nonB {p n : Nat} {ds : List D} {s : Sm} {μ μ1 : Mu} {ρ : Rho} {k : Nat} (hl : ds.length = p) (h : s (Mp.start n ds) μ = .ok (.next ρ) μ1) : (fnOf p n s ds μ).bind (fun r => isNon r k) = .ok (.loc k) μ1 := by
  rw [fn_non hl h]
  rfl
theorem Sys.made (Y : Sys P enc first mv val) {All : List S} (A : Alls first mv val All) {μ : Mu} {m : Nat} (hm : m ≤ 1000) (h1 : All.length ≤ 20000) (h2 : All.length * m ≤ 200000) : ∃ q, Closed first mv val q ∧ mkS P m μ = .ok (SC enc mv first P q m) (μ ++ [none]) := by
  obtain ⟨q, c, el, e⟩ := Y.few_states A h1 (μ ++ [some (.obj "Scripts" (scF P m (enc first)))])
  refine ⟨q, c, ?_⟩
  have ev : (Dn.meth "Scripts" "all_layers" d_Scripts_all_layers (Dn.var 0) [(false, Dn.call d_small_enough [(false, Dn.call d_states_of [(false, Dn.var 1)]), (false, Dn.var 2)])]).v [some (.dat (.loc μ.length)), some (.dat P), some (.dat (.int m))] (μ ++ [some (.obj "Scripts" (scF P m (enc first)))]) = .ok (.lst (lays enc mv q m)) (μ ++ [some (.obj "Scripts" (scF P m (enc first)))]) := by
    refine bnd (m := (Dn.var 0).v _) (a := .loc μ.length) (μ1 := μ ++ [some (.obj "Scripts" (scF P m (enc first)))]) rfl (bnd (m := content _) content_last ?_)
    have hs : evs [some (.dat (.loc μ.length)), some (.dat P), some (.dat (.int m))] [(false, Dn.call d_small_enough [(false, Dn.call d_states_of [(false, Dn.var 1)]), (false, Dn.var 2)])] (μ ++ [some (.obj "Scripts" (scF P m (enc first)))]) = .ok [gr enc mv q] (μ ++ [some (.obj "Scripts" (scF P m (enc first)))]) := by
      have e1 : evs [some (.dat (.loc μ.length)), some (.dat P), some (.dat (.int m))] [(false, Dn.call d_states_of [(false, Dn.var 1)]), (false, Dn.var 2)] (μ ++ [some (.obj "Scripts" (scF P m (enc first)))]) = .ok [gr enc mv q, .int m] (μ ++ [some (.obj "Scripts" (scF P m (enc first)))]) :=
        bnd (m := (Dn.call d_states_of [(false, Dn.var 1)]).v _) (dn_call rfl e) rfl
      exact bnd (m := (Dn.call d_small_enough _).v _) (dn_call e1 (small_ok hm (by rw [tabLen, el]; exact h2))) rfl
    rw [if_pos (show isM "Scripts" "all_layers" (.obj "Scripts" (scF P m (enc first))) = true from rfl)]
    exact bnd (m := evs _ _) hs (Y.allLayers c content_last rfl hm)
  have ei := Y.init (μ0 := μ) hm (sm_setA (y := .lst (lays enc mv q m)) (l := scF P m (enc first)) ev rfl (by simp [scF]))
  have em : makeM "Scripts" d_Scripts___init__ [P, .int m] μ = .ok (.loc μ.length) (μ ++ [some (SC enc mv first P q m)]) := fn_nonB rfl ei
  refine bnd (m := makeM _ _ _) em ?_
  show frzM (.loc μ.length) (μ ++ [some (SC enc mv first P q m)]) = _
  unfold frzM
  simp [SC]
theorem Sys.mkX (Y : Sys P enc first mv val) {All : List S} (A : Alls first mv val All) {μ : Mu} {m : Nat} (hm : m ≤ 1000) (h1 : All.length ≤ 20000) (h2 : 200000 < All.length * m) : mkS P m μ = .exc ⟨"TooMany", [("number", .int ((All.length * m : Nat) : Int))]⟩ (μ ++ [some (.obj "Scripts" (scF P m (enc first)))]) := by
  obtain ⟨q, c, el, e⟩ := Y.few_states A h1 (μ ++ [some (.obj "Scripts" (scF P m (enc first)))])
  have ev : (Dn.meth "Scripts" "all_layers" d_Scripts_all_layers (Dn.var 0) [(false, Dn.call d_small_enough [(false, Dn.call d_states_of [(false, Dn.var 1)]), (false, Dn.var 2)])]).v [some (.dat (.loc μ.length)), some (.dat P), some (.dat (.int m))] (μ ++ [some (.obj "Scripts" (scF P m (enc first)))]) = .exc ⟨"TooMany", [("number", .int ((All.length * m : Nat) : Int))]⟩ (μ ++ [some (.obj "Scripts" (scF P m (enc first)))]) := by
    refine bnd (m := (Dn.var 0).v _) (a := .loc μ.length) (μ1 := μ ++ [some (.obj "Scripts" (scF P m (enc first)))]) rfl (bnd (m := content _) content_last ?_)
    rw [if_pos (show isM "Scripts" "all_layers" (.obj "Scripts" (scF P m (enc first))) = true from rfl)]
    refine bndX (m := evs _ _) ?_
    have e1 : evs [some (.dat (.loc μ.length)), some (.dat P), some (.dat (.int m))] [(false, Dn.call d_states_of [(false, Dn.var 1)]), (false, Dn.var 2)] (μ ++ [some (.obj "Scripts" (scF P m (enc first)))]) = .ok [gr enc mv q, .int m] (μ ++ [some (.obj "Scripts" (scF P m (enc first)))]) :=
      bnd (m := (Dn.call d_states_of [(false, Dn.var 1)]).v _) (dn_call rfl e) rfl
    have hx := small_big (l := tab enc mv q) (μ := μ ++ [some (.obj "Scripts" (scF P m (enc first)))]) hm (by rw [tabLen, el]; exact h2)
    rw [tabLen, el] at hx
    exact bndX (m := (Dn.call d_small_enough _).v _) (dn_call e1 hx)
  have ei := Y.init (μ0 := μ) hm (sm_setAX (c := "Scripts") (e := Dn.var 0) (f := "layers") ev)
  have em : makeM "Scripts" d_Scripts___init__ [P, .int m] μ = .exc ⟨"TooMany", [("number", .int ((All.length * m : Nat) : Int))]⟩ (μ ++ [some (.obj "Scripts" (scF P m (enc first)))]) := by
    have := fn_exc (p := 3) (n := 3) (ds := [.loc μ.length, P, .int m]) rfl ei
    show ((fnOf 3 3 b_Scripts___init__ [.loc μ.length, P, .int m] (μ ++ [some (.obj "Scripts" [])])).bind fun r => isNon r μ.length) = _
    rw [this]
    rfl
  exact bndX (m := makeM _ _ _) em
theorem attr_obj {c : String} {l : List (String × D)} {f : String} {d : D} {ρ : Rho} {μ : Mu} {i : Nat} (h : ρ[i]? = some (some (.dat (.obj c l)))) (k : l.lookup f = some d) : (Dn.attr c (Dn.var i) f).v ρ μ = .ok d μ := by
  have hv : (Dn.var i).v ρ μ = .ok (.obj c l) μ := by show valOf ρ i μ = _; unfold valOf; rw [h]; rfl
  refine bnd (m := (Dn.var i).v ρ) hv (bnd (m := content _) (a := .obj c l) (μ1 := μ) rfl ?_)
  show (if c = c then M.some? (l.lookup f) else M.bad) μ = _
  rw [if_pos rfl, k]
  rfl
theorem Sys.amount (Y : Sys P enc first mv val) {q : List S} (c : Closed first mv val q) {m : Nat} {μ : Mu} : d_Scripts_amount [SC enc mv first P q m] μ = .ok (.int (cnt mv m first : Nat)) μ := by
  refine fn_ret rfl (sm_ret ?_)
  have e1 : (Dn.idx (Dn.attr "Scripts" (Dn.var 0) "layers") (Dn.neg (Dn.cst (.int 1)))).v (Mp.start 1 [SC enc mv first P q m]) μ = .ok (lay enc mv q m) μ := by
    have z : (Dn.idx (Dn.attr "Scripts" (Dn.var 0) "layers") (Dn.neg (Dn.cst (.int 1)))).v (Mp.start 1 [SC enc mv first P q m]) μ = M.some? (at_ (lays enc mv q m) (-1)) μ := rfl
    rw [z, lays_last]
    rfl
  have e2 : (Dn.idx (Dn.attr "Scripts" (Dn.var 0) "layers") (Dn.neg (Dn.cst (.int 1)))).q (Mp.start 1 [SC enc mv first P q m]) μ = .ok (.val (lay enc mv q m)) μ := bnd (m := (Dn.idx _ _).v _) e1 rfl
  refine bnd (m := (Dn.idx _ _).q _) e2 (bnd (m := (Dn.attr "Scripts" (Dn.var 0) "own_first").v _) (a := enc first) (μ1 := μ) rfl ?_)
  show M.some? (if keyOk true (enc first) = true then Mp.look (q.map fun s => (enc s, .int (cnt mv m s : Nat))) (enc first) else none) μ = _
  rw [Y.key _ Y.f, if_pos rfl, Y.look (g := fun s => .int (cnt mv m s : Nat)) Y.f c.v, if_pos c.f]
  rfl
theorem length_ok {q : List S} {m : Nat} {μ : Mu} : d_Scripts_length [SC enc mv first P q m] μ = .ok (.int m) μ := rfl
end
end Kt

/-! k18: scripts by their numbers, in general (own work). -/
namespace Kt
open PySem Mp
section
variable {S : Type} [DecidableEq S] {P : D} {enc : S → D} {first : S} {mv : S → List (D × S)} {val : S → Prop}
/-- moves are told apart -/
structure Mvs (enc : S → D) (mv : S → List (D × S)) (val : S → Prop) : Prop where
  self : ∀ s, val s → ∀ p ∈ mv s, eqM p.1 p.1 = some true
  other : ∀ s, val s → ∀ pre p post, mv s = pre ++ p :: post → ∀ r ∈ pre, eqM r.1 p.1 = some false
  mov : ∀ s, val s → ∀ p ∈ mv s, ∀ μ, d_is_move [p.1] μ = .ok (.bl true) μ
  no : ∀ s, isNo (enc s) = false
  c : ∀ s, val s → ∀ p ∈ mv s, content p.1 = M.ret p.1
  ce : ∀ s, content (enc s) = M.ret (enc s)
def sbBody : Sm := Dm.if_ (Dn.cmp .eq (Dn.var 3) (Dn.var 2)) (Dm.ret (Dn.var 4)) (Dm.nil)
theorem behindFor {m : D} {p : D × S} {post : List (D × S)} {o0 o1 : Option O} {μ : Mu} (hm : content m = M.ret m) (hp : content p.1 = M.ret p.1) (h1 : eqM p.1 m = some true) : ∀ {pre : List (D × S)} {x3 x4 : Option O}, (∀ r ∈ pre, content r.1 = M.ret r.1) → (∀ r ∈ pre, eqM r.1 m = some false) →
    forM [o0, o1, some (.dat m), x3, x4] (.names [3, 4]) sbBody ((pre ++ p :: post).map fun p => .tup [p.1, enc p.2]) μ = .ok (.ret (enc p.2)) μ
  | [], x3, x4, _, _ => for_ret (ρ1 := [o0, o1, some (.dat m), some (.dat p.1), some (.dat (enc p.2))]) rfl (sm_t (cmp_t (qa := .val p.1) (qb := .val m) rfl rfl (congrFun hp μ) (congrFun hm μ) h1) (sm_ret rfl))
  | r :: pre, x3, x4, hc, h => for_cons (ρ1 := [o0, o1, some (.dat m), some (.dat r.1), some (.dat (enc r.2))]) rfl (sm_f (cmp_t (qa := .val r.1) (qb := .val m) rfl rfl (congrFun (hc r List.mem_cons_self) μ) (congrFun hm μ) (h r List.mem_cons_self)) rfl) (behindFor hm hp h1 (fun z hz => hc z (List.mem_cons_of_mem _ hz)) fun z hz => h z (List.mem_cons_of_mem _ hz))
theorem Sys.after (Y : Sys P enc first mv val) (Z : Mvs enc mv val) {s : S} {pre post : List (D × S)} {p : D × S} {μ : Mu} (hs : val s) (e : mv s = pre ++ p :: post) : d_after_move [P, enc s, p.1] μ = .ok (enc p.2) μ := by
  have hp : p ∈ mv s := by rw [e]; simp
  have hb : d_state_behind [P, enc s, p.1] μ = .ok (enc p.2) μ := by
    refine fn_ret rfl (sm_consR ?_)
    have hi : Di.val (Dn.call d_all_moves [(false, Dn.var 0), (false, Dn.var 1)]) (Mp.start 5 [P, enc s, p.1]) μ = .ok ((mv s).map fun p => .tup [p.1, enc p.2]) μ := bnd (m := (Dn.call d_all_moves _).v _) (dn_call rfl (Y.mvs s hs μ)) rfl
    refine sm_for hi ?_
    rw [e]
    exact behindFor (Z.c s hs p hp) (Z.c s hs p hp) (Z.self s hs p hp) (fun r hr => Z.c s hs r (by rw [e]; exact List.mem_append_left _ hr)) (Z.other s hs pre p post e)
  refine fn_ret rfl (sm_ret ?_)
  have hm : (Dn.call d_is_move [(false, Dn.var 2)]).t (Mp.start 3 [P, enc s, p.1]) μ = .ok true μ := t_bl (dn_call rfl (Z.mov s hs p hp μ))
  exact bnd (m := (Dn.call d_is_move _).t _) hm (dn_call rfl hb)
/-- the script with a number -/
inductive Path (mv : S → List (D × S)) : Nat → S → Nat → List D → Prop
  | nil (s : S) : Path mv 0 s 0 []
  | cons {k n n' : Nat} {s : S} {pre post : List (D × S)} {p : D × S} {ms : List D} (e : mv s = pre ++ p :: post) (h : Path mv k p.2 n' ms) (hn : n = (pre.map fun p => cnt mv k p.2).sum + n') : Path mv (k + 1) s n (p.1 :: ms)
theorem Path.len {k n : Nat} {s : S} {ms : List D} (h : Path mv k s n ms) : ms.length = k := by
  induction h with
  | nil => rfl
  | cons e h hn ih => rw [List.length_cons, ih]
def layE : Den := Dn.idx (Dn.attr "Scripts" (Dn.var 0) "layers") (Dn.var 5)
def giIn : Sm := Dm.cons (Dm.if_ (Dn.cmp .lt (Dn.var 3) (Dn.idx (Dn.idx (Dn.attr "Scripts" (Dn.var 0) "layers") (Dn.var 5)) (Dn.var 7))) (Dm.cons (Dm.app 4 (Dn.var 6)) (Dm.cons (Dm.asg (.name 2) (Dn.var 7)) (Dm.brk))) (Dm.nil)) (Dm.asg (.name 3) (Dn.bin .sub (Dn.var 3) (Dn.idx (Dn.idx (Dn.attr "Scripts" (Dn.var 0) "layers") (Dn.var 5)) (Dn.var 7))))
theorem layIx (Y : Sys P enc first mv val) {q : List S} (c : Closed first mv val q) {k : Nat} {t : S} (ht : t ∈ q) : Mp.index (lay enc mv q k) (enc t) = some (.int (cnt mv k t : Nat)) := by
  show (if keyOk true (enc t) = true then Mp.look (q.map fun s => (enc s, .int (cnt mv k s : Nat))) (enc t) else none) = _
  rw [Y.key _ (c.v _ ht), if_pos rfl, Y.look (g := fun s => .int (cnt mv k s : Nat)) (c.v _ ht) c.v, if_pos ht]
theorem layIx0 {q : List S} {m k : Nat} (h : k ≤ m) : Mp.index (.lst (lays enc mv q m)) (.int (k : Nat)) = some (lay enc mv q k) := lays_at q h
def rg (SCd : D) (o1 : Option O) (st : D) (left : Nat) (found : List D) (k : Nat) (x6 x7 : Option O) : Rho := [some (.dat SCd), o1, some (.dat st), some (.dat (.int left)), some (.own (.lst found)), some (.dat (.int k)), x6, x7]
theorem giVal (Y : Sys P enc first mv val) {q : List S} (c : Closed first mv val q) {m k left : Nat} {o1 x6 : Option O} {st : D} {found : List D} {t : S} {μ : Mu} (hk : k ≤ m) (ht : t ∈ q) :
    (Dn.idx (Dn.idx (Dn.attr "Scripts" (Dn.var 0) "layers") (Dn.var 5)) (Dn.var 7)).v (rg (SC enc mv first P q m) o1 st left found k x6 (some (.dat (enc t)))) μ = .ok (.int (cnt mv k t : Nat)) μ :=
  idx_v (qa := .val (lay enc mv q k)) (q_val (idx_v (qa := .val (.lst (lays enc mv q m))) rfl rfl rfl (layIx0 hk))) rfl rfl (layIx Y c ht)
theorem Sys.giFor (Y : Sys P enc first mv val) {q : List S} (c : Closed first mv val q) {m k : Nat} {o1 : Option O} {st : D} {found : List D} {μ : Mu} (hk : k ≤ m) (hl : found.length < 1000000) : ∀ {l : List (D × S)} {n : Nat} {x6 x7 : Option O}, (∀ p ∈ l, p.2 ∈ q) → n < (l.map fun p => cnt mv k p.2).sum →
    ∃ pre p post n', l = pre ++ p :: post ∧ n = (pre.map fun p => cnt mv k p.2).sum + n' ∧ n' < cnt mv k p.2 ∧
      forM (rg (SC enc mv first P q m) o1 st n found k x6 x7) (.names [6, 7]) giIn (l.map fun p => .tup [p.1, enc p.2]) μ = .ok (.next (rg (SC enc mv first P q m) o1 (enc p.2) n' (found ++ [p.1]) k (some (.dat p.1)) (some (.dat (enc p.2))))) μ
  | [], n, _, _, _, h => by simp at h
  | p :: l, n, x6, x7, hq, h => by
    have hp := hq p List.mem_cons_self
    have hv := giVal Y c (o1 := o1) (st := st) (left := n) (found := found) (x6 := some (.dat p.1)) (μ := μ) hk hp
    have ht : (Dn.cmp .lt (Dn.var 3) (Dn.idx (Dn.idx (Dn.attr "Scripts" (Dn.var 0) "layers") (Dn.var 5)) (Dn.var 7))).t (rg (SC enc mv first P q m) o1 st n found k (some (.dat p.1)) (some (.dat (enc p.2)))) μ = .ok (decide ((n : Int) < (cnt mv k p.2 : Nat))) μ := cmp_t (qa := .val (.int n)) rfl (q_val hv) rfl rfl rfl
    by_cases z : n < cnt mv k p.2
    · rw [decide_eq_true (by exact_mod_cast z)] at ht
      refine ⟨[], p, l, n, rfl, by simp, z, ?_⟩
      refine for_brk (ρ1 := rg (SC enc mv first P q m) o1 st n found k (some (.dat p.1)) (some (.dat (enc p.2)))) rfl ?_
      refine sm_consB (sm_t ht ?_)
      refine sm_cons (sm_app (i := 4) (l := found) (d := p.1) rfl rfl (by unfold line; omega)) ?_
      exact sm_cons (sm_asg (d := enc p.2) rfl rfl) rfl
    · rw [decide_eq_false (by exact_mod_cast z)] at ht
      rw [List.map_cons, List.sum_cons] at h
      obtain ⟨pre, r, post, n', e1, e2, e3, e4⟩ := Y.giFor c (o1 := o1) (st := st) (found := found) (μ := μ) hk hl (l := l) (n := n - cnt mv k p.2) (x6 := some (.dat p.1)) (x7 := some (.dat (enc p.2))) (fun r hr => hq r (List.mem_cons_of_mem _ hr)) (by omega)
      refine ⟨p :: pre, r, post, n', by rw [e1]; rfl, by rw [List.map_cons, List.sum_cons]; omega, e3, ?_⟩
      refine for_cons (ρ1 := rg (SC enc mv first P q m) o1 st n found k (some (.dat p.1)) (some (.dat (enc p.2)))) (ρ2 := rg (SC enc mv first P q m) o1 st (n - cnt mv k p.2) found k (some (.dat p.1)) (some (.dat (enc p.2)))) rfl ?_ e4
      refine sm_cons (sm_f ht rfl) ?_
      have hs : (Dn.bin .sub (Dn.var 3) (Dn.idx (Dn.idx (Dn.attr "Scripts" (Dn.var 0) "layers") (Dn.var 5)) (Dn.var 7))).v (rg (SC enc mv first P q m) o1 st n found k (some (.dat p.1)) (some (.dat (enc p.2)))) μ = .ok (.int ((n - cnt mv k p.2 : Nat) : Int)) μ := by
        refine bin_v (qa := .val (.int n)) rfl (q_val hv) rfl rfl ?_
        show some (D.int ((n : Int) - (cnt mv k p.2 : Nat))) = _
        rw [Int.ofNat_sub (by omega)]
      exact sm_asg hs rfl
def giBody : Sm := Dm.for_ (.names [6, 7]) (Di.val (Dn.call d_all_moves [(false, Dn.attr "Scripts" (Dn.var 0) "own_program"), (false, Dn.var 2)])) giIn
theorem Sys.giAll (Y : Sys P enc first mv val) {q : List S} (c : Closed first mv val q) {m : Nat} {o1 : Option O} {μ : Mu} : ∀ (k : Nat) {s : S} {n : Nat} {found : List D} {x5 x6 x7 : Option O}, k ≤ m → found.length + k < 1000000 → s ∈ q → n < cnt mv k s →
    ∃ ms x5' x6' x7' st' l', Path mv k s n ms ∧ forM [some (.dat (SC enc mv first P q m)), o1, some (.dat (enc s)), some (.dat (.int n)), some (.own (.lst found)), x5, x6, x7] (.name 5) giBody (rangeL ((k : Int) - 1) (-1) k) μ =
      .ok (.next [some (.dat (SC enc mv first P q m)), o1, some (.dat st'), some (.dat (.int (l' : Nat))), some (.own (.lst (found ++ ms))), x5', x6', x7']) μ
  | 0, s, n, found, x5, x6, x7, _, _, _, hn => by
    have : n = 0 := by have : n < 1 := hn; omega
    subst this
    exact ⟨[], x5, x6, x7, enc s, 0, .nil s, by rw [List.append_nil]; rfl⟩
  | k + 1, s, n, found, x5, x6, x7, hk, hl, hs, hn => by
    obtain ⟨pre, p, post, n', e1, e2, e3, e4⟩ := Y.giFor c (m := m) (k := k) (o1 := o1) (st := enc s) (found := found) (μ := μ) (by omega) (by omega) (l := mv s) (n := n) (x6 := x6) (x7 := x7) (c.c s hs) hn
    have hp : p.2 ∈ q := c.c s hs p (by rw [e1]; simp)
    obtain ⟨ms, x5', x6', x7', st', l', hpath, hrun⟩ := Y.giAll c (m := m) (o1 := o1) (μ := μ) k (s := p.2) (n := n') (found := found ++ [p.1]) (x5 := some (.dat (.int k))) (x6 := some (.dat p.1)) (x7 := some (.dat (enc p.2))) (by omega) (by rw [List.length_append]; simp; omega) hp e3
    refine ⟨p.1 :: ms, x5', x6', x7', st', l', .cons e1 hpath e2, ?_⟩
    have er : rangeL (((k + 1 : Nat) : Int) - 1) (-1) (k + 1) = .int k :: rangeL ((k : Int) - 1) (-1) k := by
      show D.int (((k + 1 : Nat) : Int) - 1) :: rangeL (((k + 1 : Nat) : Int) - 1 + -1) (-1) k = _
      have a : ((k + 1 : Nat) : Int) - 1 = k := by omega
      rw [a]
      rfl
    rw [er]
    have ha : found ++ p.1 :: ms = (found ++ [p.1]) ++ ms := by simp
    rw [ha]
    refine for_cons (ρ1 := rg (SC enc mv first P q m) o1 (enc s) n found k x6 x7) rfl (sm_for ?_ e4) hrun
    exact bnd (m := (Dn.call d_all_moves _).v _) (dn_call rfl (Y.mvs s (c.v s hs) μ)) rfl
theorem Sys.getitem (Y : Sys P enc first mv val) {q : List S} (c : Closed first mv val q) {m n : Nat} {μ : Mu} (hm : m ≤ 1000) (hn : n < cnt mv m first) : ∃ ms, Path mv m first n ms ∧ d_Scripts___getitem__ [SC enc mv first P q m, .int n] μ = .ok (.lst ms) μ := by
  obtain ⟨ms, x5', x6', x7', st', l', hp, hr⟩ := Y.giAll c (m := m) (o1 := some (.dat (.int n))) (μ := μ) m (s := first) (n := n) (found := []) (x5 := none) (x6 := none) (x7 := none) (by omega) (by simp; omega) c.f hn
  refine ⟨ms, hp, fn_ret rfl ?_⟩
  refine sm_cons (μ1 := μ) (sm_f (μ1 := μ) (or2_f (μ1 := μ) rfl ?_) rfl) ?_
  · have ea : (Dn.prop "Scripts" d_Scripts_amount (Dn.var 0)).v (Mp.start 8 [SC enc mv first P q m, .int n]) μ = .ok (.int (cnt mv m first : Nat)) μ := prop_v (z := SC enc mv first P q m) rfl rfl rfl (Y.amount c)
    have ec : (Dn.chain .le .lt (Dn.cst (.int 0)) (Dn.var 1) (Dn.prop "Scripts" d_Scripts_amount (Dn.var 0))).v (Mp.start 8 [SC enc mv first P q m, .int n]) μ = .ok (.bl true) μ := by
      refine chain_v (d := .int 0) (y := .int n) rfl rfl ?_ ea ?_
      · show some (decide ((0 : Int) ≤ n)) = _
        rw [decide_eq_true (by omega)]
      · show some (decide ((n : Int) < (cnt mv m first : Nat))) = _
        rw [decide_eq_true (by exact_mod_cast hn)]
    exact not_t (t_bl ec)
  refine sm_cons (sm_asg (d := enc first) rfl rfl) (sm_cons (sm_asg (d := .int n) rfl rfl) (sm_cons (sm_own (d := .lst []) rfl rfl) ?_))
  have hit : Di.range3 (Dn.bin .sub (Dn.attr "Scripts" (Dn.var 0) "own_moves") (Dn.cst (.int 1))) (Dn.neg (Dn.cst (.int 1))) (Dn.neg (Dn.cst (.int 1))) [some (.dat (SC enc mv first P q m)), some (.dat (.int n)), some (.dat (enc first)), some (.dat (.int n)), some (.own (.lst [])), none, none, none] μ = .ok (rangeL ((m : Int) - 1) (-1) m) μ := by
    refine bnd (m := (Dn.bin _ _ _).v _) (a := .int ((m : Int) - 1)) (μ1 := μ) rfl (bnd (m := (Dn.neg _).v _) (a := .int (-1)) (μ1 := μ) rfl (bnd (m := (Dn.neg _).v _) (a := .int (-1)) (μ1 := μ) rfl ?_))
    have e : Mp.range3 (.int ((m : Int) - 1)) (.int (-1)) (.int (-1)) = some (rangeL ((m : Int) - 1) (-1) m) := by
      simp only [Mp.range3]
      rw [if_pos ⟨trivial, by omega, by omega, by omega, by omega⟩]
      have : ((m : Int) - 1 - -1).toNat = m := by omega
      rw [this]
    rw [e]
    rfl
  refine sm_cons (sm_for hit hr) ?_
  rw [List.nil_append]
  exact sm_cons (ρ1 := [some (.dat (SC enc mv first P q m)), some (.dat (.int n)), some (.dat st'), some (.dat (.int l')), some (.dat (.lst ms)), x5', x6', x7']) rfl (sm_ret rfl)
/-! the number of a script -/
def noIn : Sm := Dm.cons (Dm.if_ (Dn.cmp .eq (Dn.var 7) (Dn.var 5)) (Dm.brk) (Dm.nil)) (Dm.asg (.name 3) (Dn.bin .add (Dn.var 3) (Dn.idx (Dn.idx (Dn.attr "Scripts" (Dn.var 0) "layers") (Dn.bin .sub (Dn.bin .sub (Dn.attr "Scripts" (Dn.var 0) "own_moves") (Dn.var 4)) (Dn.cst (.int 1)))) (Dn.var 8))))
def rn (SCd : D) (o1 : Option O) (st : D) (found : Nat) (a : Nat) (mm : D) (x6 x7 x8 : Option O) : Rho := [some (.dat SCd), o1, some (.dat st), some (.dat (.int found)), some (.dat (.int a)), some (.dat mm), x6, x7, x8]
theorem noFor (Y : Sys P enc first mv val) {q : List S} (c : Closed first mv val q) {m k a : Nat} {o1 : Option O} {st : D} {x6 : Option O} {mm : D} {μ : Mu} {p : D × S} {post : List (D × S)} (hk : a + (k + 1) = m) (hm : content mm = M.ret mm) (hp : content p.1 = M.ret p.1) (h1 : eqM p.1 mm = some true) :
    ∀ {pre : List (D × S)} {n : Nat} {x7 x8 : Option O}, (∀ r ∈ pre, content r.1 = M.ret r.1) → (∀ r ∈ pre, eqM r.1 mm = some false) → (∀ r ∈ pre, r.2 ∈ q) →
    ∃ x7' x8', forM (rn (SC enc mv first P q m) o1 st n a mm x6 x7 x8) (.names [7, 8]) noIn ((pre ++ p :: post).map fun p => .tup [p.1, enc p.2]) μ = .ok (.next (rn (SC enc mv first P q m) o1 st (n + (pre.map fun p => cnt mv k p.2).sum) a mm x6 x7' x8')) μ
  | [], n, x7, x8, _, _, _ => ⟨some (.dat p.1), some (.dat (enc p.2)), for_brk (ρ1 := rn (SC enc mv first P q m) o1 st n a mm x6 (some (.dat p.1)) (some (.dat (enc p.2)))) rfl (sm_consB (sm_t (cmp_t (qa := .val p.1) (qb := .val mm) rfl rfl (congrFun hp μ) (congrFun hm μ) h1) rfl))⟩
  | r :: pre, n, x7, x8, hc, h, hq => by
    obtain ⟨x7', x8', e⟩ := noFor Y c (o1 := o1) (st := st) (x6 := x6) (μ := μ) (post := post) hk hm hp h1 (pre := pre) (n := n + cnt mv k r.2) (x7 := some (.dat r.1)) (x8 := some (.dat (enc r.2))) (fun z hz => hc z (List.mem_cons_of_mem _ hz)) (fun z hz => h z (List.mem_cons_of_mem _ hz)) (fun z hz => hq z (List.mem_cons_of_mem _ hz))
    refine ⟨x7', x8', for_cons (ρ1 := rn (SC enc mv first P q m) o1 st n a mm x6 (some (.dat r.1)) (some (.dat (enc r.2)))) (ρ2 := rn (SC enc mv first P q m) o1 st (n + cnt mv k r.2) a mm x6 (some (.dat r.1)) (some (.dat (enc r.2)))) (μ1 := μ) rfl ?_ ?_⟩
    · refine sm_cons (sm_f (cmp_t (qa := .val r.1) (qb := .val mm) rfl rfl (congrFun (hc r List.mem_cons_self) μ) (congrFun hm μ) (h r List.mem_cons_self)) rfl) ?_
      have hs : (Dn.bin .sub (Dn.bin .sub (Dn.attr "Scripts" (Dn.var 0) "own_moves") (Dn.var 4)) (Dn.cst (.int 1))).v (rn (SC enc mv first P q m) o1 st n a mm x6 (some (.dat r.1)) (some (.dat (enc r.2)))) μ = .ok (.int (k : Nat)) μ := by
        refine bin_v (y := .int ((m : Int) - a)) (qa := .val (.int ((m : Int) - a))) (qb := .val (.int 1)) rfl rfl rfl rfl ?_
        show some (D.int ((m : Int) - a - 1)) = _
        have : (m : Int) - a - 1 = k := by omega
        rw [this]
      have hv : (Dn.idx (Dn.idx (Dn.attr "Scripts" (Dn.var 0) "layers") (Dn.bin .sub (Dn.bin .sub (Dn.attr "Scripts" (Dn.var 0) "own_moves") (Dn.var 4)) (Dn.cst (.int 1)))) (Dn.var 8)).v (rn (SC enc mv first P q m) o1 st n a mm x6 (some (.dat r.1)) (some (.dat (enc r.2)))) μ = .ok (.int (cnt mv k r.2 : Nat)) μ :=
        idx_v (qa := .val (lay enc mv q k)) (q_val (idx_v (qa := .val (.lst (lays enc mv q m))) rfl hs rfl (layIx0 (by omega)))) rfl rfl (layIx Y c (hq r List.mem_cons_self))
      have hb : (Dn.bin .add (Dn.var 3) (Dn.idx (Dn.idx (Dn.attr "Scripts" (Dn.var 0) "layers") (Dn.bin .sub (Dn.bin .sub (Dn.attr "Scripts" (Dn.var 0) "own_moves") (Dn.var 4)) (Dn.cst (.int 1)))) (Dn.var 8))).v (rn (SC enc mv first P q m) o1 st n a mm x6 (some (.dat r.1)) (some (.dat (enc r.2)))) μ = .ok (.int ((n + cnt mv k r.2 : Nat) : Int)) μ := by
        refine bin_v (qa := .val (.int n)) rfl (q_val hv) rfl rfl ?_
        show some (D.int ((n : Int) + (cnt mv k r.2 : Nat))) = _
        rw [Int.natCast_add]
      exact sm_asg hb rfl
    · have es : n + ((r :: pre).map fun p => cnt mv k p.2).sum = n + cnt mv k r.2 + (pre.map fun p => cnt mv k p.2).sum := by rw [List.map_cons, List.sum_cons]; omega
      rw [es]
      exact e
def noBody : Sm := Dm.cons (Dm.asg (.name 6) (Dn.call d_after_move [(false, Dn.attr "Scripts" (Dn.var 0) "own_program"), (false, Dn.var 2), (false, Dn.var 5)])) (Dm.cons (Dm.if_ (Dn.or_ [(false, Dn.cmp .is_ (Dn.var 6) (Dn.cst .non)), (false, Dn.cmp .eq (Dn.var 4) (Dn.attr "Scripts" (Dn.var 0) "own_moves"))]) (Dm.never) (Dm.nil)) (Dm.cons (Dm.for_ (.names [7, 8]) (Di.val (Dn.call d_all_moves [(false, Dn.attr "Scripts" (Dn.var 0) "own_program"), (false, Dn.var 2)])) noIn) (Dm.asg (.name 2) (Dn.var 6))))
theorem Sys.noAll (Y : Sys P enc first mv val) (Z : Mvs enc mv val) {q : List S} (c : Closed first mv val q) {m : Nat} {o1 : Option O} {μ : Mu} {k n : Nat} {s : S} {ms : List D} (hp : Path mv k s n ms) : ∀ {f a : Nat} {x4 x5 x6 x7 x8 : Option O}, a + k = m → s ∈ q →
    ∃ st x4' x5' x6' x7' x8', forM [some (.dat (SC enc mv first P q m)), o1, some (.dat (enc s)), some (.dat (.int (f : Nat))), x4, x5, x6, x7, x8] (.names [4, 5]) noBody (enumL a ms) μ = .ok (.next [some (.dat (SC enc mv first P q m)), o1, some (.dat st), some (.dat (.int ((f + n : Nat) : Int))), x4', x5', x6', x7', x8']) μ := by
  induction hp with
  | nil s => exact fun {f a x4 x5 x6 x7 x8} _ _ => ⟨enc s, x4, x5, x6, x7, x8, rfl⟩
  | cons e h hn ih =>
    rename_i k n n' s pre post p ms
    intro f a x4 x5 x6 x7 x8 ha hs
    have hv := c.v s hs
    have hmem : p ∈ mv s := by rw [e]; simp
    have hpre : ∀ r ∈ pre, r ∈ mv s := fun r hr => by rw [e]; exact List.mem_append_left _ hr
    obtain ⟨x7', x8', ef⟩ := noFor Y c (m := m) (k := k) (a := a) (o1 := o1) (st := enc s) (x6 := some (.dat (enc p.2))) (μ := μ) (post := post) (by omega) (Z.c s hv p hmem) (Z.c s hv p hmem) (Z.self s hv p hmem) (pre := pre) (n := f) (x7 := x7) (x8 := x8) (fun r hr => Z.c s hv r (hpre r hr)) (Z.other s hv pre p post e) (fun r hr => c.c s hs r (hpre r hr))
    obtain ⟨st, y4, y5, y6, y7, y8, er⟩ := ih (f := f + (pre.map fun p => cnt mv k p.2).sum) (a := a + 1) (x4 := some (.dat (.int a))) (x5 := some (.dat p.1)) (x6 := some (.dat (enc p.2))) (x7 := x7') (x8 := x8') (by omega) (c.c s hs p hmem)
    have en : f + n = f + (pre.map fun p => cnt mv k p.2).sum + n' := by omega
    rw [en]
    refine ⟨st, y4, y5, y6, y7, y8, ?_⟩
    have el : enumL (a : Int) (p.1 :: ms) = .tup [.int a, p.1] :: enumL ((a + 1 : Nat) : Int) ms := rfl
    rw [el]
    refine for_cons (ρ1 := rn (SC enc mv first P q m) o1 (enc s) f a p.1 x6 x7 x8) (ρ2 := rn (SC enc mv first P q m) o1 (enc p.2) (f + (pre.map fun p => cnt mv k p.2).sum) a p.1 (some (.dat (enc p.2))) x7' x8') (μ1 := μ) rfl ?_ er
    have hafter : (Dn.call d_after_move [(false, Dn.attr "Scripts" (Dn.var 0) "own_program"), (false, Dn.var 2), (false, Dn.var 5)]).v (rn (SC enc mv first P q m) o1 (enc s) f a p.1 x6 x7 x8) μ = .ok (enc p.2) μ := dn_call rfl (Y.after Z hv e)
    refine sm_cons (ρ1 := rn (SC enc mv first P q m) o1 (enc s) f a p.1 (some (.dat (enc p.2))) x7 x8) (sm_asg hafter rfl) ?_
    have t1 : (Dn.cmp .is_ (Dn.var 6) (Dn.cst .non)).t (rn (SC enc mv first P q m) o1 (enc s) f a p.1 (some (.dat (enc p.2))) x7 x8) μ = .ok false μ := by
      refine cmp_t (y := enc p.2) (z := .non) (qa := .val (enc p.2)) (qb := .val .non) rfl rfl (congrFun (Z.ce p.2) μ) rfl ?_
      show some (isNo (enc p.2)) = _
      rw [Z.no]
    have t2 : (Dn.cmp .eq (Dn.var 4) (Dn.attr "Scripts" (Dn.var 0) "own_moves")).t (rn (SC enc mv first P q m) o1 (enc s) f a p.1 (some (.dat (enc p.2))) x7 x8) μ = .ok false μ := by
      refine cmp_t (y := .int a) (z := .int m) (qa := .val (.int a)) (qb := .val (.int m)) rfl rfl rfl rfl ?_
      show some ((a : Int) == (m : Int)) = _
      have : ((a : Int) == (m : Int)) = false := by simp; omega
      rw [this]
    refine sm_cons (sm_f (or2_f t1 t2) rfl) ?_
    refine sm_cons (ρ1 := rn (SC enc mv first P q m) o1 (enc s) (f + (pre.map fun p => cnt mv k p.2).sum) a p.1 (some (.dat (enc p.2))) x7' x8') (μ1 := μ) (sm_for (ds := (mv s).map fun p => .tup [p.1, enc p.2]) (μ1 := μ) ?_ ?_) ?_
    · exact bnd (m := (Dn.call d_all_moves _).v _) (dn_call rfl (Y.mvs s hv μ)) rfl
    · rw [e]; exact ef
    · exact sm_asg (d := enc p.2) rfl rfl
theorem Sys.number (Y : Sys P enc first mv val) (Z : Mvs enc mv val) {q : List S} (c : Closed first mv val q) {m n : Nat} {ms : List D} {μ : Mu} (hp : Path mv m first n ms) : d_Scripts_number_of [SC enc mv first P q m, .lst ms] μ = .ok (.int (n : Nat)) μ := by
  obtain ⟨st, x4, x5, x6, x7, x8, e⟩ := Y.noAll Z c (m := m) (o1 := some (.dat (.lst ms))) (μ := μ) hp (f := 0) (a := 0) (x4 := none) (x5 := none) (x6 := none) (x7 := none) (x8 := none) (by omega) c.f
  rw [Nat.zero_add] at e
  refine fn_ret rfl (sm_cons (ρ1 := Mp.start 9 [SC enc mv first P q m, .lst ms]) (μ1 := μ) rfl ?_)
  refine sm_cons (sm_asg (d := enc first) rfl rfl) (sm_cons (sm_asg (d := .int 0) rfl rfl) ?_)
  refine sm_cons (sm_for (ds := enumL 0 ms) (μ1 := μ) rfl e) ?_
  refine sm_cons (μ1 := μ) (sm_f (μ1 := μ) ?_ rfl) (sm_ret rfl)
  refine cmp_t (y := .int ms.length) (z := .int m) (qa := .val (.int ms.length)) (qb := .val (.int m)) rfl rfl rfl rfl ?_
  show some (decide ((ms.length : Int) < m)) = _
  rw [hp.len, decide_eq_false (by omega)]
def enBody : Sm := Dm.cons (Dm.asg (.name 2) (Dn.call d_after_move [(false, Dn.attr "Scripts" (Dn.var 0) "own_program"), (false, Dn.var 2), (false, Dn.var 3)])) (Dm.if_ (Dn.cmp .is_ (Dn.var 2) (Dn.cst .non)) (Dm.ret (Dn.cst .non)) (Dm.nil))
theorem Sys.enAll (Y : Sys P enc first mv val) (Z : Mvs enc mv val) {q : List S} (c : Closed first mv val q) {m : Nat} {o1 : Option O} {μ : Mu} {k n : Nat} {s : S} {ms : List D} (hp : Path mv k s n ms) : ∀ {x3 : Option O}, s ∈ q →
    ∃ t x3', forM [some (.dat (SC enc mv first P q m)), o1, some (.dat (enc s)), x3] (.name 3) enBody ms μ = .ok (.next [some (.dat (SC enc mv first P q m)), o1, some (.dat (enc t)), x3']) μ := by
  induction hp with
  | nil s => exact fun {x3} _ => ⟨s, x3, rfl⟩
  | cons e h hn ih =>
    rename_i k n n' s pre post p ms
    intro x3 hs
    have hv := c.v s hs
    have hmem : p ∈ mv s := by rw [e]; simp
    obtain ⟨t, x3', er⟩ := ih (x3 := some (.dat p.1)) (c.c s hs p hmem)
    refine ⟨t, x3', for_cons (ρ1 := [some (.dat (SC enc mv first P q m)), o1, some (.dat (enc s)), some (.dat p.1)]) (μ1 := μ) rfl ?_ er⟩
    have hafter : (Dn.call d_after_move [(false, Dn.attr "Scripts" (Dn.var 0) "own_program"), (false, Dn.var 2), (false, Dn.var 3)]).v [some (.dat (SC enc mv first P q m)), o1, some (.dat (enc s)), some (.dat p.1)] μ = .ok (enc p.2) μ := dn_call rfl (Y.after Z hv e)
    refine sm_cons (sm_asg hafter rfl) (sm_f (μ1 := μ) ?_ rfl)
    refine cmp_t (y := enc p.2) (z := .non) (qa := .val (enc p.2)) (qb := .val .non) rfl rfl (congrFun (Z.ce p.2) μ) rfl ?_
    show some (isNo (enc p.2)) = _
    rw [Z.no]
theorem Sys.contains (Y : Sys P enc first mv val) (Z : Mvs enc mv val) {q : List S} (c : Closed first mv val q) {m n : Nat} {ms : List D} {μ : Mu} (hp : Path mv m first n ms) : d_Scripts___contains__ [SC enc mv first P q m, .lst ms] μ = .ok (.bl true) μ := by
  obtain ⟨t, x3, e⟩ := Y.enAll Z c (m := m) (o1 := some (.dat (.lst ms))) (μ := μ) hp (x3 := none) c.f
  have he : d_Scripts_end_of [SC enc mv first P q m, .lst ms] μ = .ok (enc t) μ := by
    refine fn_ret rfl (sm_cons (sm_asg (d := enc first) rfl rfl) (sm_cons (sm_for (ds := ms) (μ1 := μ) rfl e) (sm_ret rfl)))
  refine fn_ret rfl (sm_ret ?_)
  refine bnd (m := (Dn.isi (Dn.var 1) .list).v _) (a := .bl true) (μ1 := μ) rfl (bnd (m := content _) (a := .bl true) (μ1 := μ) rfl (bnd (m := truthM _) (a := true) (μ1 := μ) rfl ?_))
  have e2 : (Dn.cmp .eq (Dn.bi1 .len (Dn.var 1)) (Dn.attr "Scripts" (Dn.var 0) "own_moves")).v (Mp.start 2 [SC enc mv first P q m, .lst ms]) μ = .ok (.bl true) μ := by
    refine cmp_v (cmp_t (y := .int ms.length) (z := .int m) (qa := .val (.int ms.length)) (qb := .val (.int m)) rfl rfl rfl rfl ?_)
    show some ((ms.length : Int) == (m : Int)) = _
    rw [hp.len]
    simp
  refine bnd (m := (Dn.cmp _ _ _).v _) e2 (bnd (m := content _) (a := .bl true) (μ1 := μ) rfl (bnd (m := truthM _) (a := true) (μ1 := μ) rfl ?_))
  have e3 : (Dn.meth "Scripts" "end_of" d_Scripts_end_of (Dn.var 0) [(false, Dn.var 1)]).q (Mp.start 2 [SC enc mv first P q m, .lst ms]) μ = .ok (.val (enc t)) μ := by
    refine q_val ?_
    refine bnd (m := (Dn.var 0).v _) (a := SC enc mv first P q m) (μ1 := μ) rfl (bnd (m := content (SC enc mv first P q m)) (a := SC enc mv first P q m) (μ1 := μ) rfl ?_)
    rw [if_pos (show isM "Scripts" "end_of" (SC enc mv first P q m) = true from rfl)]
    exact bnd (m := evs _ _) (a := [.lst ms]) (μ1 := μ) rfl he
  refine cmp_v (cmp_t (y := enc t) (z := .non) (qb := .val .non) e3 rfl (congrFun (Z.ce t) μ) rfl ?_)
  show some (!isNo (enc t)) = _
  rw [Z.no]
  rfl
end
end Kt

/-! k18: the endless programs (own work). -/
namespace Kt
open PySem Mp
def prog (lv sz : Int) (fs ls lines : List (D × D)) : D := .obj "Program" [("own_levels", .int lv), ("own_size", .int sz), ("firsts", .dct false fs), ("lists", .dct false ls), ("own_sections", .lst []), ("own_lines", .dct false lines), ("own_main", .str "main"), ("own_guards", .dct true [])]
def enL : List (D × D) := [(.str "h", .lst []), (.str "main", .lst [.tup [.str "go", .int 0]])]
def PT : D := prog 1 2 [(.str "x", .int 0)] enL [(.str "t", .tup [.int 1, .str "h"])]
def PF : D := prog 1 2 [(.str "x", .int 0)] enL []
def mainFr (k : Int) : D := .tup [.int 0, .int 0, .tup [.tup [.str "main", .int k, .int 0]]]
def encE : Bool → D
  | false => .tup [.tup [.int 0], .int 0, .tup [mainFr 0]]
  | true => .tup [.tup [.int 0], .int 1, .tup [mainFr 0, .tup [.int 1, .int 0, .tup [.tup [.str "h", .int 0, .int 0]]]]]
def rowM (v : Int) : D := .tup [.str "row", .int v]
def serveM (s : Str) : D := .tup [.str "serve", .str s]
def mvE : Bool → List (D × Bool)
  | false => [(serveM "t", true), (rowM 0, false)]
  | true => [(rowM 0, false)]
theorem sysT : Sys PT encE false mvE (fun _ => True) where
  f := trivial
  v := fun _ _ _ _ => trivial
  chk := fun μ => by kernel_rfl
  fst := fun μ => by kernel_rfl
  mvs := fun s _ μ => by cases s <;> kernel_rfl
  eq := fun s t _ _ => by cases s <;> cases t <;> kernel_rfl
  key := fun s _ => by cases s <;> kernel_rfl
  few := fun s _ => by cases s <;> decide
theorem allT : Alls false mvE (fun _ => True) [false, true] where
  nd := by decide
  m := fun s => by cases s <;> simp
  r := fun C h k s _ => by
    cases s
    · exact h
    · exact k false trivial h (serveM "t", true) (by simp [mvE])
theorem mvsT : Mvs encE mvE (fun _ => True) where
  self := fun s _ p hp => by
    cases s
    · simp only [mvE, List.mem_cons, List.not_mem_nil, or_false] at hp
      rcases hp with rfl | rfl <;> kernel_rfl
    · simp only [mvE, List.mem_cons, List.not_mem_nil, or_false] at hp
      subst hp
      kernel_rfl
  other := fun s _ pre p post e r hr => by
    cases s
    · match pre, e, hr with
      | [], _, hr => cases hr
      | [a], e, hr =>
        have e : [(serveM "t", true), (rowM 0, false)] = [a] ++ p :: post := e
        simp only [List.cons_append, List.nil_append, List.cons.injEq] at e
        obtain ⟨rfl, rfl, _⟩ := e
        rw [List.mem_singleton] at hr
        subst hr
        kernel_rfl
      | a :: b :: c, e, hr =>
        have e := congrArg List.length e
        simp [mvE] at e
    · match pre, e, hr with
      | [], _, hr => cases hr
      | a :: c, e, hr =>
        have e := congrArg List.length e
        simp [mvE] at e
  mov := fun s _ p hp μ => by
    cases s
    · simp only [mvE, List.mem_cons, List.not_mem_nil, or_false] at hp
      rcases hp with rfl | rfl <;> kernel_rfl
    · simp only [mvE, List.mem_cons, List.not_mem_nil, or_false] at hp
      subst hp
      kernel_rfl
  no := fun s => by cases s <;> rfl
  c := fun s _ p hp => by
    cases s
    · simp only [mvE, List.mem_cons, List.not_mem_nil, or_false] at hp
      rcases hp with rfl | rfl <;> rfl
    · simp only [mvE, List.mem_cons, List.not_mem_nil, or_false] at hp
      subst hp
      rfl
  ce := fun s => by cases s <;> rfl
def encF (_ : Unit) : D := encE false
def mvF (_ : Unit) : List (D × Unit) := [(rowM 0, ())]
theorem sysF : Sys PF encF () mvF (fun _ => True) where
  f := trivial
  v := fun _ _ _ _ => trivial
  chk := fun μ => by kernel_rfl
  fst := fun μ => by kernel_rfl
  mvs := fun s _ μ => by cases s; kernel_rfl
  eq := fun s t _ _ => by cases s; cases t; kernel_rfl
  key := fun s _ => by cases s; kernel_rfl
  few := fun s _ => by cases s; decide
theorem allF : Alls () mvF (fun _ => True) [()] where
  nd := by simp
  m := fun s => by simp
  r := fun C h k s _ => h
theorem mvsF : Mvs encF mvF (fun _ => True) where
  self := fun s _ p hp => by
    simp only [mvF, List.mem_cons, List.not_mem_nil, or_false] at hp
    subst hp
    kernel_rfl
  other := fun s _ pre p post e r hr => by
    match pre, e, hr with
    | [], _, hr => cases hr
    | a :: c, e, hr =>
      have e := congrArg List.length e
      simp [mvF] at e
  mov := fun s _ p hp μ => by
    simp only [mvF, List.mem_cons, List.not_mem_nil, or_false] at hp
    subst hp
    kernel_rfl
  no := fun s => rfl
  c := fun s _ p hp => by
    simp only [mvF, List.mem_cons, List.not_mem_nil, or_false] at hp
    subst hp
    rfl
  ce := fun s => rfl
/-! how many -/
theorem cntF : ∀ k, cnt mvF k () = 1
  | 0 => rfl
  | k + 1 => by
    show ([cnt mvF k ()] : List Nat).sum = 1
    rw [cntF k]
    rfl
theorem cntT_s (k : Nat) : cnt mvE (k + 1) false = cnt mvE k true + cnt mvE k false := by
  show ([cnt mvE k true, cnt mvE k false] : List Nat).sum = _
  simp
theorem cntT_t (k : Nat) : cnt mvE (k + 1) true = cnt mvE k false := by
  show ([cnt mvE k false] : List Nat).sum = _
  simp
theorem cntT_pos : ∀ k, 1 ≤ cnt mvE k false
  | 0 => Nat.le_refl _
  | k + 1 => by rw [cntT_s]; have := cntT_pos k; omega
def suBody : Sm := Dm.asgs [1, 2] [(false, Dn.bin .add (Dn.var 1) (Dn.var 2)), (false, Dn.var 1)]
theorem sumFor {o0 : Option O} {μ : Mu} : ∀ (n : Nat) {k : Nat} {a : Int} {x3 : Option O}, ∃ x3', forM [o0, some (.dat (.int (cnt mvE k false : Nat))), some (.dat (.int (cnt mvE k true : Nat))), x3] (.name 3) suBody (rangeL a 1 n) μ =
      .ok (.next [o0, some (.dat (.int (cnt mvE (k + n) false : Nat))), some (.dat (.int (cnt mvE (k + n) true : Nat))), x3']) μ
  | 0, k, a, x3 => ⟨x3, rfl⟩
  | n + 1, k, a, x3 => by
    obtain ⟨x3', e⟩ := sumFor (o0 := o0) (μ := μ) n (k := k + 1) (a := a + 1) (x3 := some (.dat (.int a)))
    have ek : k + 1 + n = k + (n + 1) := by omega
    rw [ek] at e
    refine ⟨x3', for_cons (ρ1 := [o0, some (.dat (.int (cnt mvE k false : Nat))), some (.dat (.int (cnt mvE k true : Nat))), some (.dat (.int a))]) (ρ2 := [o0, some (.dat (.int (cnt mvE (k + 1) false : Nat))), some (.dat (.int (cnt mvE (k + 1) true : Nat))), some (.dat (.int a))]) (μ1 := μ) rfl ?_ e⟩
    have es : ((cnt mvE (k + 1) false : Nat) : Int) = (cnt mvE k false : Nat) + (cnt mvE k true : Nat) := by rw [cntT_s]; omega
    rw [es, cntT_t]
    rfl
theorem law_sum {m : Nat} {μ : Mu} (hm : m ≤ 1000) : d__law_sum [.int m] μ = .ok (.int (cnt mvE m false : Nat)) μ := by
  obtain ⟨x3, e⟩ := sumFor (o0 := some (.dat (.int m))) (μ := μ) m (k := 0) (a := 0) (x3 := none)
  rw [Nat.zero_add] at e
  refine fn_ret rfl (sm_cons (ρ1 := [some (.dat (.int m)), some (.dat (.int 1)), some (.dat (.int 1)), none]) (μ1 := μ) rfl ?_)
  refine sm_cons (sm_for (ds := rangeL 0 1 m) (μ1 := μ) ?_ e) (sm_ret rfl)
  refine bnd (m := (Dn.var 0).v _) (a := .int m) (μ1 := μ) rfl ?_
  show M.some? (Mp.range1 (.int m)) μ = _
  rw [range1_ok (by omega)]
  rfl
end Kt

/-! k18: towers of lines (own work). -/
namespace Kt
open PySem Mp
abbrev Pl := List (Nat × Bool)
/-- lines being served (the uppermost first), point of the main procedure, the cells -/
abbrev TS := Pl × Nat × Int × Int × Int × Int
def topl : Pl → Nat
  | [] => 0
  | p :: _ => p.1
def lineFr (l below : Nat) (e : Bool) : D := .tup [.int l, .int below, .tup [.tup [.str "h", .int (if e then 1 else 0), .int 0]]]
def rfr : Pl → List D
  | [] => []
  | p :: r => lineFr p.1 (topl r) p.2 :: rfr r
def encW (s : TS) : D := .tup [.tup [.int s.2.2.1, .int s.2.2.2.1, .int s.2.2.2.2.1, .int s.2.2.2.2.2], .int (topl s.1), .tup (mainFr s.2.1 :: (rfr s.1).reverse)]
def nmL : Nat → Str
  | 1 => "p"
  | 2 => "q"
  | 3 => "r"
  | _ => "s"
/-- the levels that can be served above a mask -/
def lv : Nat → Nat → List Nat
  | 0, _ => []
  | L + 1, m => if m < L + 1 then (L + 1) :: lv L m else []
def putV : Nat → Int → Int × Int × Int × Int → Int × Int × Int × Int
  | 0, v, (_, b, c, d) => (v, b, c, d)
  | 1, v, (a, _, c, d) => (a, v, c, d)
  | 2, v, (a, b, _, d) => (a, b, v, d)
  | _, v, (a, b, c, _) => (a, b, c, v)
def rowsW : TS → List (D × TS)
  | ([], k, x) => if k < 4 then [(rowM 0, [], k + 1, putV k 0 x), (rowM 1, [], k + 1, putV k 1 x), (rowM 2, [], k + 1, putV k 2 x), (rowM 3, [], k + 1, putV k 3 x)] else []
  | ((l, false) :: r, k, x) => [(rowM 0, (l, true) :: r, k, x)]
  | ((l, true) :: r, k, x) => [(rowM 0, r, k, x)]
def mvW (L : Nat) (s : TS) : List (D × TS) := (lv L (topl s.1)).map (fun l => (serveM (nmL l), (l, false) :: s.1, s.2)) ++ rowsW s
def linesD (L : Nat) : List (D × D) := (List.range L).map fun i => (.str (nmL (i + 1)), .tup [.int (i + 1 : Nat), .str "h"])
def tfs : List (D × D) := [(.str "a", .int 0), (.str "b", .int 0), (.str "c", .int 0), (.str "d", .int 0)]
def tls : List (D × D) := [(.str "h", .lst [.tup [.str "look", .str "a"]]), (.str "main", .lst [.tup [.str "any", .str "a"], .tup [.str "any", .str "b"], .tup [.str "any", .str "c"], .tup [.str "any", .str "d"]])]
def PW (L : Nat) : D := prog 4 4 tfs tls (linesD L)
def pls : Nat → List Pl
  | 0 => [[]]
  | L + 1 => pls L ++ (pls L).flatMap fun r => [(L + 1, false) :: r, (L + 1, true) :: r]
def ks : List Nat := [0, 1, 2, 3, 4]
/-- shapes: lines and point -/
def shapes (L : Nat) : List (Pl × Nat) := (pls L).flatMap fun p => ks.map fun k => (p, k)
/-! values compared -/
mutual
def nob : D → Bool
  | .int _ => true
  | .str _ => true
  | .tup l => nobs l
  | _ => false
def nobs : List D → Bool
  | [] => true
  | d :: r => nob d && nobs r
end
mutual
theorem eqv_eq : ∀ (d e : D), nob d = true → nob e = true → (eqv d e = true ↔ d = e)
  | .int i, e, _, h => by
    cases e <;> first | (cases h; done) | (simp [eqv])
  | .str i, e, _, h => by
    cases e <;> first | (cases h; done) | (simp [eqv])
  | .tup l, e, k, h => by
    cases e with
    | tup m =>
      have z : eqv (.tup l) (.tup m) = eqvs l m := by simp [eqv]
      rw [z, eqvs_eq l m (by simpa [nob] using k) (by simpa [nob] using h)]
      simp
    | int _ => simp [eqv]
    | str _ => simp [eqv]
    | _ => cases h
  | .non, _, k, _ => by cases k
  | .bl _, _, k, _ => by cases k
  | .lst _, _, k, _ => by cases k
  | .dct _ _, _, k, _ => by cases k
  | .obj _ _, _, k, _ => by cases k
  | .loc _, _, k, _ => by cases k
  | .scr _, _, k, _ => by cases k
theorem eqvs_eq : ∀ (l m : List D), nobs l = true → nobs m = true → (eqvs l m = true ↔ l = m)
  | [], [], _, _ => by simp [eqvs]
  | [], _ :: _, _, _ => by simp [eqvs]
  | _ :: _, [], _, _ => by simp [eqvs]
  | d :: l, e :: m, h, k => by
    simp only [nobs, Bool.and_eq_true] at h k
    have z : eqvs (d :: l) (e :: m) = (eqv d e && eqvs l m) := by simp [eqvs]
    rw [z, Bool.and_eq_true, eqv_eq d e h.1 k.1, eqvs_eq l m h.2 k.2]
    simp
end
theorem nobs_app : ∀ (l m : List D), nobs (l ++ m) = (nobs l && nobs m)
  | [], m => by simp [nobs]
  | d :: l, m => by
    show (nob d && nobs (l ++ m)) = ((nob d && nobs l) && nobs m)
    rw [nobs_app l m, Bool.and_assoc]
theorem nobs_rev : ∀ l : List D, nobs l.reverse = nobs l
  | [] => rfl
  | d :: l => by
    rw [List.reverse_cons, nobs_app, nobs_rev l]
    show (nobs l && (nob d && true)) = (nob d && nobs l)
    rw [Bool.and_true, Bool.and_comm]
theorem hks_app (n : Nat) : ∀ (l m : List D), hks n (l ++ m) = (hks n l && hks n m)
  | [], m => by simp [hks]
  | d :: l, m => by
    show (hk n d && hks n (l ++ m)) = ((hk n d && hks n l) && hks n m)
    rw [hks_app n l m, Bool.and_assoc]
theorem hks_rev (n : Nat) : ∀ l : List D, hks n l.reverse = hks n l
  | [] => rfl
  | d :: l => by
    rw [List.reverse_cons, hks_app, hks_rev n l]
    show (hks n l && (hk n d && true)) = (hk n d && hks n l)
    rw [Bool.and_true, Bool.and_comm]
theorem nob_rfr : ∀ p : Pl, nobs (rfr p) = true
  | [] => rfl
  | (l, e) :: r => by
    show (nob (lineFr l (topl r) e) && nobs (rfr r)) = true
    rw [nob_rfr r]
    rfl
theorem hk_rfr : ∀ p : Pl, hks 6 (rfr p) = true
  | [] => rfl
  | (l, e) :: r => by
    show (hk 6 (lineFr l (topl r) e) && hks 6 (rfr r)) = true
    rw [hk_rfr r]
    rfl
theorem nob_enc (s : TS) : nob (encW s) = true := by
  show (true && (true && ((true && nobs (rfr s.1).reverse) && true))) = true
  rw [nobs_rev, nob_rfr]
  rfl
theorem key_enc (s : TS) : keyOk true (encW s) = true := by
  show (true && (true && (true && ((true && hks 6 (rfr s.1).reverse) && true)))) = true
  rw [hks_rev, hk_rfr]
  rfl
theorem rfr_inj : ∀ p q : Pl, rfr p = rfr q → p = q
  | [], [], _ => rfl
  | [], _ :: _, h => by cases h
  | _ :: _, [], h => by cases h
  | (l, e) :: p, (m, f) :: q, h => by
    have h : lineFr l (topl p) e :: rfr p = lineFr m (topl q) f :: rfr q := h
    simp only [List.cons.injEq] at h
    have hp := rfr_inj p q h.2
    have h1 := h.1
    simp only [lineFr, D.tup.injEq, List.cons.injEq, D.int.injEq] at h1
    have hl : l = m := by have := h1.1; omega
    have hf : e = f := by
      have := h1.2.2.1.1.2.1
      cases e <;> cases f <;> simp at this ⊢
    rw [hl, hf, hp]
theorem enc_inj {s t : TS} (h : encW s = encW t) : s = t := by
  obtain ⟨p, k, a, b, c, d⟩ := s
  obtain ⟨p', k', a', b', c', d'⟩ := t
  simp only [encW, D.tup.injEq, List.cons.injEq, D.int.injEq, mainFr, and_true, true_and] at h
  obtain ⟨⟨ha, hb, hc, hd⟩, _, hk, hr⟩ := h
  have hp := rfr_inj p p' (List.reverse_inj.mp hr)
  have hk : k = k' := by omega
  subst ha hb hc hd hp hk
  rfl
theorem eq_enc (s t : TS) : eqv (encW s) (encW t) = decide (s = t) := by
  by_cases h : s = t
  · rw [decide_eq_true h, (eqv_eq _ _ (nob_enc s) (nob_enc t)).mpr (by rw [h])]
  · rw [decide_eq_false h]
    cases e : eqv (encW s) (encW t) with
    | false => rfl
    | true => exact absurd (enc_inj ((eqv_eq _ _ (nob_enc s) (nob_enc t)).mp e)) h
/-! which states there are -/
def vok (x : Nat × Int × Int × Int × Int) : Prop := x.1 ≤ 4 ∧ (0 ≤ x.2.1 ∧ x.2.1 < 4 ∧ (x.1 < 1 → x.2.1 = 0)) ∧ (0 ≤ x.2.2.1 ∧ x.2.2.1 < 4 ∧ (x.1 < 2 → x.2.2.1 = 0)) ∧ (0 ≤ x.2.2.2.1 ∧ x.2.2.2.1 < 4 ∧ (x.1 < 3 → x.2.2.2.1 = 0)) ∧ 0 ≤ x.2.2.2.2 ∧ x.2.2.2.2 < 4 ∧ (x.1 < 4 → x.2.2.2.2 = 0)
def valW (L : Nat) (s : TS) : Prop := s.1 ∈ pls L ∧ vok s.2
def firstW : TS := ([], 0, 0, 0, 0, 0)
def rng (b : Bool) : List Int := if b then [0, 1, 2, 3] else [0]
theorem mem_rng {b : Bool} {x : Int} : x ∈ rng b ↔ 0 ≤ x ∧ x < 4 ∧ (b = false → x = 0) := by
  cases b
  · simp [rng]
    omega
  · simp [rng]
    omega
def AllV : List (Nat × Int × Int × Int × Int) := ks.flatMap fun k => (rng (decide (0 < k))).flatMap fun a => (rng (decide (1 < k))).flatMap fun b => (rng (decide (2 < k))).flatMap fun c => (rng (decide (3 < k))).map fun d => (k, a, b, c, d)
theorem mem_AllV (x : Nat × Int × Int × Int × Int) : x ∈ AllV ↔ vok x := by
  obtain ⟨k, a, b, c, d⟩ := x
  unfold AllV vok
  simp only [List.mem_flatMap, List.mem_map, mem_rng, Prod.mk.injEq, decide_eq_false_iff_not]
  have hk : k ∈ ks ↔ k ≤ 4 := by
    unfold ks
    simp
    omega
  constructor
  · rintro ⟨k', h1, a', h2, b', h3, c', h4, d', h5, rfl, rfl, rfl, rfl, rfl⟩
    refine ⟨hk.mp h1, ⟨h2.1, h2.2.1, fun z => h2.2.2 (by omega)⟩, ⟨h3.1, h3.2.1, fun z => h3.2.2 (by omega)⟩, ⟨h4.1, h4.2.1, fun z => h4.2.2 (by omega)⟩, h5.1, h5.2.1, fun z => h5.2.2 (by omega)⟩
  · rintro ⟨h1, h2, h3, h4, h5⟩
    exact ⟨k, hk.mpr h1, a, ⟨h2.1, h2.2.1, fun z => h2.2.2 (by omega)⟩, b, ⟨h3.1, h3.2.1, fun z => h3.2.2 (by omega)⟩, c, ⟨h4.1, h4.2.1, fun z => h4.2.2 (by omega)⟩, d, ⟨h5.1, h5.2.1, fun z => h5.2.2 (by omega)⟩, rfl, rfl, rfl, rfl, rfl⟩
theorem nd_AllV : AllV.Nodup := by decide +kernel
theorem len_AllV : AllV.length = 341 := by decide +kernel
theorem nd_prod {α β : Type} {m : List β} (hm : m.Nodup) : ∀ {l : List α}, l.Nodup → (l.flatMap fun a => m.map fun b => (a, b)).Nodup
  | [], _ => .nil
  | a :: l, h => by
    cases h with
    | cons h1 h2 =>
      rw [List.flatMap_cons, List.nodup_append]
      refine ⟨?_, nd_prod hm h2, fun x hx y hy e => ?_⟩
      · refine List.pairwise_map.mpr (hm.imp fun {x y} h z => h (Prod.mk.inj z).2)
      · obtain ⟨b, _, rfl⟩ := List.mem_map.mp hx
        obtain ⟨a', ha', hy⟩ := List.mem_flatMap.mp hy
        obtain ⟨b', _, rfl⟩ := List.mem_map.mp hy
        exact h1 a' ha' (Prod.mk.inj e).1
def AllW (L : Nat) : List TS := (pls L).flatMap fun p => AllV.map fun v => (p, v)
theorem mem_AllW (L : Nat) (s : TS) : valW L s ↔ s ∈ AllW L := by
  obtain ⟨p, x⟩ := s
  unfold valW AllW
  simp only [List.mem_flatMap, List.mem_map, Prod.mk.injEq]
  constructor
  · rintro ⟨h1, h2⟩
    exact ⟨p, h1, x, (mem_AllV x).mpr h2, rfl, rfl⟩
  · rintro ⟨p', h1, x', h2, rfl, rfl⟩
    exact ⟨h1, (mem_AllV _).mp h2⟩
theorem len_AllW (L : Nat) : (AllW L).length = (pls L).length * 341 := by
  unfold AllW
  rw [List.length_flatMap]
  have : ((pls L).map fun a => (AllV.map fun v => ((a, v) : TS)).length) = (pls L).map fun _ => 341 := by
    refine List.map_congr_left fun a _ => ?_
    rw [List.length_map, len_AllV]
  rw [this]
  clear this
  induction pls L with
  | nil => rfl
  | cons a l ih => rw [List.map_cons, List.sum_cons, ih, List.length_cons]; omega
/-- what is to be looked up of the lines -/
def rowB (L : Nat) (p : Pl) : Bool := match p with
  | [] => true
  | (l, false) :: r => decide ((l, true) :: r ∈ pls L) && (decide (r ∈ pls L) && decide (l ∈ lv L (topl r)))
  | (l, true) :: r => decide (r ∈ pls L) && decide ((l, false) :: r ∈ pls L)
structure PlOk (L : Nat) : Prop where
  nd : (pls L).Nodup
  srv : ∀ p ∈ pls L, ∀ l ∈ lv L (topl p), (l, false) :: p ∈ pls L
  row : ∀ p ∈ pls L, rowB L p = true
theorem plOk0 : PlOk 0 := ⟨by decide +kernel, by decide +kernel, by decide +kernel⟩
theorem plOk1 : PlOk 1 := ⟨by decide +kernel, by decide +kernel, by decide +kernel⟩
theorem plOk4 : PlOk 4 := ⟨by decide +kernel, by decide +kernel, by decide +kernel⟩
theorem lv_len : ∀ L m : Nat, (lv L m).length ≤ L
  | 0, _ => Nat.le_refl _
  | L + 1, m => by
    unfold lv
    split
    · rw [List.length_cons]; have := lv_len L m; omega
    · simp
theorem put_vok {k : Nat} {v : Int} {x : Int × Int × Int × Int} (h : vok (k, x)) (hk : k < 4) (h0 : 0 ≤ v) (h4 : v < 4) : vok (k + 1, putV k v x) := by
  obtain ⟨a, b, c, d⟩ := x
  obtain ⟨h1, h2, h3, h5, h6⟩ := h
  match k, hk with
  | 0, _ => simp only [vok, putV] at *; omega
  | 1, _ => simp only [vok, putV] at *; omega
  | 2, _ => simp only [vok, putV] at *; omega
  | 3, _ => simp only [vok, putV] at *; omega
theorem row_mem {L k : Nat} {v : Int} {x : Int × Int × Int × Int} (hk : k < 4) (h0 : 0 ≤ v) (h4 : v < 4) : (rowM v, (([], k + 1, putV k v x) : TS)) ∈ mvW L ([], k, x) := by
  refine List.mem_append_right _ ?_
  show _ ∈ (if k < 4 then _ else _)
  rw [if_pos hk]
  have : v = 0 ∨ v = 1 ∨ v = 2 ∨ v = 3 := by omega
  rcases this with rfl | rfl | rfl | rfl <;> simp
theorem sysW {L : Nat} (hL : L ≤ 4) (hp : PlOk L) (hc : ∀ μ, d_check_program [PW L] μ = .ok .non μ) (hf : ∀ μ, d_first_state [PW L] μ = .ok (encW firstW) μ)
    (hm : ∀ k ∈ ks, ∀ (a b c d : Int) (μ : Mu), ∀ p ∈ pls L, d_all_moves [PW L, encW (p, k, a, b, c, d)] μ = .ok (mvD encW (mvW L) (p, k, a, b, c, d)) μ) (h0 : ([] : Pl) ∈ pls L) : Sys (PW L) encW firstW (mvW L) (valW L) where
  f := ⟨h0, by simp [vok, firstW]⟩
  v := fun s hs r hr => by
    obtain ⟨p, k, x⟩ := s
    obtain ⟨h1, h2⟩ := hs
    rcases List.mem_append.mp hr with z | z
    · obtain ⟨l, hl, rfl⟩ := List.mem_map.mp z
      exact ⟨hp.srv p h1 l hl, h2⟩
    · match p, h1, h2, z with
      | [], h1, h2, z =>
        have z : r ∈ (if k < 4 then [(rowM 0, (([], k + 1, putV k 0 x) : TS)), (rowM 1, [], k + 1, putV k 1 x), (rowM 2, [], k + 1, putV k 2 x), (rowM 3, [], k + 1, putV k 3 x)] else []) := z
        split at z
        · rename_i hk
          simp only [List.mem_cons, List.not_mem_nil, or_false] at z
          rcases z with rfl | rfl | rfl | rfl
          · exact ⟨h1, put_vok h2 hk (by decide) (by decide)⟩
          · exact ⟨h1, put_vok h2 hk (by decide) (by decide)⟩
          · exact ⟨h1, put_vok h2 hk (by decide) (by decide)⟩
          · exact ⟨h1, put_vok h2 hk (by decide) (by decide)⟩
        · cases z
      | (l, false) :: q, h1, h2, z =>
        have z : r = (rowM 0, (((l, true) :: q, k, x) : TS)) := List.mem_singleton.mp z
        subst z
        have := hp.row _ h1
        simp only [rowB, Bool.and_eq_true, decide_eq_true_eq] at this
        exact ⟨this.1, h2⟩
      | (l, true) :: q, h1, h2, z =>
        have z : r = (rowM 0, ((q, k, x) : TS)) := List.mem_singleton.mp z
        subst z
        have := hp.row _ h1
        simp only [rowB, Bool.and_eq_true, decide_eq_true_eq] at this
        exact ⟨this.1, h2⟩
  chk := hc
  fst := hf
  mvs := fun s hs μ => by
    obtain ⟨p, k, a, b, c, d⟩ := s
    have hk : k ∈ ks := by
      have : k ≤ 4 := hs.2.1
      unfold ks
      simp
      omega
    exact hm k hk a b c d μ p hs.1
  eq := fun s t _ _ => eq_enc s t
  key := fun s _ => key_enc s
  few := fun s _ => by
    obtain ⟨p, k, x⟩ := s
    unfold mvW
    rw [List.length_append, List.length_map]
    have h1 := lv_len L (topl p)
    have h2 : (rowsW (p, k, x)).length ≤ 4 := by
      match p with
      | [] =>
        show (if k < 4 then _ else _ : List (D × TS)).length ≤ 4
        split <;> simp
      | (l, false) :: q => exact (by decide : 1 ≤ 4)
      | (l, true) :: q => exact (by decide : 1 ≤ 4)
    show (lv L (topl p)).length + _ ≤ 100
    omega
theorem allW {L : Nat} (hp : PlOk L) (h0 : ([] : Pl) ∈ pls L) : Alls firstW (mvW L) (valW L) (AllW L) where
  nd := nd_prod nd_AllV hp.nd
  m := mem_AllW L
  r := fun C h k s hs => by
    have stp : ∀ {k' : Nat} {x : Int × Int × Int × Int} {v : Int}, vok (k', x) → k' < 4 → 0 ≤ v → v < 4 → C ([], k', x) → C ([], k' + 1, putV k' v x) := fun {k' x v} hv hk a b hC => k _ ⟨h0, hv⟩ hC _ (row_mem hk a b)
    have base : ∀ x, vok x → C ([], x) := fun x hx => by
      obtain ⟨k', a, b, c, d⟩ := x
      have hx' := hx
      obtain ⟨e1, e2, e3, e4, e5⟩ := hx
      simp only at e1 e2 e3 e4 e5
      have s1 : C ([], 1, a, 0, 0, 0) := stp (k' := 0) (x := (0, 0, 0, 0)) (v := a) (by simp [vok]) (by omega) e2.1 e2.2.1 h
      have s2 : C ([], 2, a, b, 0, 0) := stp (k' := 1) (x := (a, 0, 0, 0)) (v := b) (by simp [vok]; omega) (by omega) e3.1 e3.2.1 s1
      have s3 : C ([], 3, a, b, c, 0) := stp (k' := 2) (x := (a, b, 0, 0)) (v := c) (by simp [vok]; omega) (by omega) e4.1 e4.2.1 s2
      have s4 : C ([], 4, a, b, c, d) := stp (k' := 3) (x := (a, b, c, 0)) (v := d) (by simp [vok]; omega) (by omega) e5.1 e5.2.1 s3
      have hk : k' = 0 ∨ k' = 1 ∨ k' = 2 ∨ k' = 3 ∨ k' = 4 := by omega
      rcases hk with rfl | rfl | rfl | rfl | rfl
      · have a0 : a = 0 := e2.2.2 (by omega)
        have b0 : b = 0 := e3.2.2 (by omega)
        have c0 : c = 0 := e4.2.2 (by omega)
        have d0 : d = 0 := e5.2.2 (by omega)
        rw [a0, b0, c0, d0]; exact h
      · have b0 : b = 0 := e3.2.2 (by omega)
        have c0 : c = 0 := e4.2.2 (by omega)
        have d0 : d = 0 := e5.2.2 (by omega)
        rw [b0, c0, d0]; exact s1
      · have c0 : c = 0 := e4.2.2 (by omega)
        have d0 : d = 0 := e5.2.2 (by omega)
        rw [c0, d0]; exact s2
      · have d0 : d = 0 := e5.2.2 (by omega)
        rw [d0]; exact s3
      · exact s4
    have up : ∀ (p : Pl) (x : Nat × Int × Int × Int × Int), p ∈ pls L → vok x → C (p, x) := by
      intro p
      induction p with
      | nil => exact fun x _ hx => base x hx
      | cons t q ih =>
        obtain ⟨l, e⟩ := t
        intro x hpq hx
        have lo : ∀ x, (l, false) :: q ∈ pls L → vok x → C ((l, false) :: q, x) := fun x h1 hx => by
          have h2 := hp.row _ h1
          simp only [rowB, Bool.and_eq_true, decide_eq_true_eq] at h2
          refine k (q, x) ⟨h2.2.1, hx⟩ (ih x h2.2.1 hx) (serveM (nmL l), (l, false) :: q, x) ?_
          exact List.mem_append_left _ (List.mem_map.mpr ⟨l, h2.2.2, rfl⟩)
        cases e with
        | false => exact lo x hpq hx
        | true =>
          have h2 := hp.row _ hpq
          simp only [rowB, Bool.and_eq_true, decide_eq_true_eq] at h2
          refine k ((l, false) :: q, x) ⟨h2.2, hx⟩ (lo x h2.2 hx) (rowM 0, (l, true) :: q, x) ?_
          obtain ⟨k', x'⟩ := x
          exact List.mem_append_right _ (List.mem_singleton.mpr rfl)
    exact up s.1 s.2 hs.1 hs.2
theorem mv0 (a b c d : Int) (μ : Mu) : (shapes 0).map (fun s => d_all_moves [PW 0, encW (s.1, s.2, a, b, c, d)] μ) = (shapes 0).map (fun s => .ok (mvD encW (mvW 0) (s.1, s.2, a, b, c, d)) μ) := by kernel_rfl
theorem mv1 (a b c d : Int) (μ : Mu) : (shapes 1).map (fun s => d_all_moves [PW 1, encW (s.1, s.2, a, b, c, d)] μ) = (shapes 1).map (fun s => .ok (mvD encW (mvW 1) (s.1, s.2, a, b, c, d)) μ) := by kernel_rfl
theorem of_shapes {L : Nat} (hm : ∀ (a b c d : Int) (μ : Mu), (shapes L).map (fun s => d_all_moves [PW L, encW (s.1, s.2, a, b, c, d)] μ) = (shapes L).map (fun s => .ok (mvD encW (mvW L) (s.1, s.2, a, b, c, d)) μ)) : ∀ k ∈ ks, ∀ (a b c d : Int) (μ : Mu), ∀ p ∈ pls L, d_all_moves [PW L, encW (p, k, a, b, c, d)] μ = .ok (mvD encW (mvW L) (p, k, a, b, c, d)) μ :=
  fun k hk a b c d μ p hp => List.map_inj_left.mp (hm a b c d μ) (p, k) (List.mem_flatMap.mpr ⟨p, hp, List.mem_map.mpr ⟨k, hk, rfl⟩⟩)
theorem sysW0 : Sys (PW 0) encW firstW (mvW 0) (valW 0) := sysW (by omega) plOk0 (fun μ => by kernel_rfl) (fun μ => by kernel_rfl) (of_shapes mv0) (by decide)
theorem sysW1 : Sys (PW 1) encW firstW (mvW 1) (valW 1) := sysW (by omega) plOk1 (fun μ => by kernel_rfl) (fun μ => by kernel_rfl) (of_shapes mv1) (by decide)
theorem allW0 : Alls firstW (mvW 0) (valW 0) (AllW 0) := allW plOk0 (by decide)
theorem allW1 : Alls firstW (mvW 1) (valW 1) (AllW 1) := allW plOk1 (by decide)
theorem len0 : (AllW 0).length = 341 := by rw [len_AllW]; rfl
theorem len1 : (AllW 1).length = 1023 := by rw [len_AllW]; rfl
theorem len4 : (AllW 4).length = 27621 := by rw [len_AllW]; rfl
end Kt

/-! k18: the tower of four lines (own work). -/
namespace Kt
open PySem Mp
theorem mv4_0_0 (a b c d : Int) (μ : Mu) : (((pls 4).drop 0).take 27).map (fun p => d_all_moves [PW 4, encW (p, 0, a, b, c, d)] μ) = (((pls 4).drop 0).take 27).map (fun p => .ok (mvD encW (mvW 4) (p, 0, a, b, c, d)) μ) := by kernel_rfl
theorem mv4_0_1 (a b c d : Int) (μ : Mu) : (((pls 4).drop 27).take 27).map (fun p => d_all_moves [PW 4, encW (p, 0, a, b, c, d)] μ) = (((pls 4).drop 27).take 27).map (fun p => .ok (mvD encW (mvW 4) (p, 0, a, b, c, d)) μ) := by kernel_rfl
theorem mv4_0_2 (a b c d : Int) (μ : Mu) : (((pls 4).drop 54).take 27).map (fun p => d_all_moves [PW 4, encW (p, 0, a, b, c, d)] μ) = (((pls 4).drop 54).take 27).map (fun p => .ok (mvD encW (mvW 4) (p, 0, a, b, c, d)) μ) := by kernel_rfl
theorem mv4_1_0 (a b c d : Int) (μ : Mu) : (((pls 4).drop 0).take 27).map (fun p => d_all_moves [PW 4, encW (p, 1, a, b, c, d)] μ) = (((pls 4).drop 0).take 27).map (fun p => .ok (mvD encW (mvW 4) (p, 1, a, b, c, d)) μ) := by kernel_rfl
theorem mv4_1_1 (a b c d : Int) (μ : Mu) : (((pls 4).drop 27).take 27).map (fun p => d_all_moves [PW 4, encW (p, 1, a, b, c, d)] μ) = (((pls 4).drop 27).take 27).map (fun p => .ok (mvD encW (mvW 4) (p, 1, a, b, c, d)) μ) := by kernel_rfl
theorem mv4_1_2 (a b c d : Int) (μ : Mu) : (((pls 4).drop 54).take 27).map (fun p => d_all_moves [PW 4, encW (p, 1, a, b, c, d)] μ) = (((pls 4).drop 54).take 27).map (fun p => .ok (mvD encW (mvW 4) (p, 1, a, b, c, d)) μ) := by kernel_rfl
theorem mv4_2_0 (a b c d : Int) (μ : Mu) : (((pls 4).drop 0).take 27).map (fun p => d_all_moves [PW 4, encW (p, 2, a, b, c, d)] μ) = (((pls 4).drop 0).take 27).map (fun p => .ok (mvD encW (mvW 4) (p, 2, a, b, c, d)) μ) := by kernel_rfl
theorem mv4_2_1 (a b c d : Int) (μ : Mu) : (((pls 4).drop 27).take 27).map (fun p => d_all_moves [PW 4, encW (p, 2, a, b, c, d)] μ) = (((pls 4).drop 27).take 27).map (fun p => .ok (mvD encW (mvW 4) (p, 2, a, b, c, d)) μ) := by kernel_rfl
theorem mv4_2_2 (a b c d : Int) (μ : Mu) : (((pls 4).drop 54).take 27).map (fun p => d_all_moves [PW 4, encW (p, 2, a, b, c, d)] μ) = (((pls 4).drop 54).take 27).map (fun p => .ok (mvD encW (mvW 4) (p, 2, a, b, c, d)) μ) := by kernel_rfl
theorem mv4_3_0 (a b c d : Int) (μ : Mu) : (((pls 4).drop 0).take 27).map (fun p => d_all_moves [PW 4, encW (p, 3, a, b, c, d)] μ) = (((pls 4).drop 0).take 27).map (fun p => .ok (mvD encW (mvW 4) (p, 3, a, b, c, d)) μ) := by kernel_rfl
theorem mv4_3_1 (a b c d : Int) (μ : Mu) : (((pls 4).drop 27).take 27).map (fun p => d_all_moves [PW 4, encW (p, 3, a, b, c, d)] μ) = (((pls 4).drop 27).take 27).map (fun p => .ok (mvD encW (mvW 4) (p, 3, a, b, c, d)) μ) := by kernel_rfl
theorem mv4_3_2 (a b c d : Int) (μ : Mu) : (((pls 4).drop 54).take 27).map (fun p => d_all_moves [PW 4, encW (p, 3, a, b, c, d)] μ) = (((pls 4).drop 54).take 27).map (fun p => .ok (mvD encW (mvW 4) (p, 3, a, b, c, d)) μ) := by kernel_rfl
theorem mv4_4_0 (a b c d : Int) (μ : Mu) : (((pls 4).drop 0).take 27).map (fun p => d_all_moves [PW 4, encW (p, 4, a, b, c, d)] μ) = (((pls 4).drop 0).take 27).map (fun p => .ok (mvD encW (mvW 4) (p, 4, a, b, c, d)) μ) := by kernel_rfl
theorem mv4_4_1 (a b c d : Int) (μ : Mu) : (((pls 4).drop 27).take 27).map (fun p => d_all_moves [PW 4, encW (p, 4, a, b, c, d)] μ) = (((pls 4).drop 27).take 27).map (fun p => .ok (mvD encW (mvW 4) (p, 4, a, b, c, d)) μ) := by kernel_rfl
theorem mv4_4_2 (a b c d : Int) (μ : Mu) : (((pls 4).drop 54).take 27).map (fun p => d_all_moves [PW 4, encW (p, 4, a, b, c, d)] μ) = (((pls 4).drop 54).take 27).map (fun p => .ok (mvD encW (mvW 4) (p, 4, a, b, c, d)) μ) := by kernel_rfl
theorem parts4 : pls 4 = ((pls 4).drop 0).take 27 ++ (((pls 4).drop 27).take 27 ++ ((pls 4).drop 54).take 27) := by decide +kernel
theorem parts4_of {P : Pl → Prop} (h0 : ∀ p ∈ ((pls 4).drop 0).take 27, P p) (h1 : ∀ p ∈ ((pls 4).drop 27).take 27, P p) (h2 : ∀ p ∈ ((pls 4).drop 54).take 27, P p) : ∀ p ∈ pls 4, P p := fun p hp => by
  rw [parts4] at hp
  rcases List.mem_append.mp hp with z | z
  · exact h0 p z
  · rcases List.mem_append.mp z with z | z
    · exact h1 p z
    · exact h2 p z
theorem mv4 : ∀ k ∈ ks, ∀ (a b c d : Int) (μ : Mu), ∀ p ∈ pls 4, d_all_moves [PW 4, encW (p, k, a, b, c, d)] μ = .ok (mvD encW (mvW 4) (p, k, a, b, c, d)) μ := fun k hk a b c d μ => by
  have hk : k = 0 ∨ k = 1 ∨ k = 2 ∨ k = 3 ∨ k = 4 := by
    unfold ks at hk
    simpa using hk
  rcases hk with rfl | rfl | rfl | rfl | rfl
  · exact parts4_of (fun p hp => List.map_inj_left.mp (mv4_0_0 a b c d μ) p hp) (fun p hp => List.map_inj_left.mp (mv4_0_1 a b c d μ) p hp) (fun p hp => List.map_inj_left.mp (mv4_0_2 a b c d μ) p hp)
  · exact parts4_of (fun p hp => List.map_inj_left.mp (mv4_1_0 a b c d μ) p hp) (fun p hp => List.map_inj_left.mp (mv4_1_1 a b c d μ) p hp) (fun p hp => List.map_inj_left.mp (mv4_1_2 a b c d μ) p hp)
  · exact parts4_of (fun p hp => List.map_inj_left.mp (mv4_2_0 a b c d μ) p hp) (fun p hp => List.map_inj_left.mp (mv4_2_1 a b c d μ) p hp) (fun p hp => List.map_inj_left.mp (mv4_2_2 a b c d μ) p hp)
  · exact parts4_of (fun p hp => List.map_inj_left.mp (mv4_3_0 a b c d μ) p hp) (fun p hp => List.map_inj_left.mp (mv4_3_1 a b c d μ) p hp) (fun p hp => List.map_inj_left.mp (mv4_3_2 a b c d μ) p hp)
  · exact parts4_of (fun p hp => List.map_inj_left.mp (mv4_4_0 a b c d μ) p hp) (fun p hp => List.map_inj_left.mp (mv4_4_1 a b c d μ) p hp) (fun p hp => List.map_inj_left.mp (mv4_4_2 a b c d μ) p hp)
theorem sysW4 : Sys (PW 4) encW firstW (mvW 4) (valW 4) := sysW (by omega) plOk4 (fun μ => by kernel_rfl) (fun μ => by kernel_rfl) mv4 (by decide)
theorem allW4 : Alls firstW (mvW 4) (valW 4) (AllW 4) := allW plOk4 (by decide)
end Kt

/-! k18: told, great (own work). -/
namespace Kt
open PySem Mp
/-! told, great -/
theorem great_of {P : D} {k : Nat} {μ : Mu} (hk : 20000 < k) (e : d_states_of [P] μ = .exc ⟨"TooMany", [("number", .int (k : Nat))]⟩ μ) : d__law_great [P] μ = .ok (.bl true) μ := by
  refine fn_ret rfl (sm_consR ?_)
  have em : d_many_states [P] μ = .exc ⟨"TooMany", [("number", .int (k : Nat))]⟩ μ := by
    refine fn_exc rfl (sm_retX ?_)
    exact bndX (m := (Dn.call d_states_of [(false, Dn.var 0)]).q _) (bndX (m := (Dn.call d_states_of [(false, Dn.var 0)]).v _) (dn_call rfl e))
  have ed : Dm.drop (Dn.call d_many_states [(false, Dn.var 0)]) (Mp.start 2 [P]) μ = .exc ⟨"TooMany", [("number", .int (k : Nat))]⟩ μ := sm_dropX (dn_call rfl em)
  have et : Dm.try_ "TooMany" (Dm.drop (Dn.call d_many_states [(false, Dn.var 0)])) (Dm.above 20000) (Mp.start 2 [P]) μ = (match (Dm.drop (Dn.call d_many_states [(false, Dn.var 0)]) (Mp.start 2 [P]) μ) with
    | .ok o μ' => .ok o μ'
    | .exc x μ' => if x.c = "TooMany" then Dm.above 20000 x.l (Mp.start 2 [P]) μ' else .bad
    | .bad => .bad) := rfl
  rw [et, ed]
  show (if "TooMany" = "TooMany" then Res.ok (Out.ret (.bl (decide ((20000 : Int) < (k : Nat))))) μ else .bad) = _
  rw [if_pos rfl, decide_eq_true (by omega)]
def toldE : Den := Dn.frz (Dn.make "Scripts" d_Scripts___init__ [(false, Dn.var 0), (false, Dn.var 1)] [])
theorem told_eq {P : D} {m : Nat} {μ : Mu} : b__law_told (Mp.start 3 [P, .int m]) μ = (match (Dm.ret (Dn.lst [(false, Dn.cst (.str "amount")), (false, Dn.prop "Scripts" d_Scripts_amount toldE)]) (Mp.start 3 [P, .int m]) μ) with
    | .ok o μ' => .ok o μ'
    | .exc x μ' => if x.c = "TooMany" then Dm.told "many" x.l (Mp.start 3 [P, .int m]) μ' else .bad
    | .bad => .bad) := rfl
theorem told_ok {P S : D} {m n : Nat} {μ μ1 : Mu} (e : mkS P m μ = .ok S μ1) (hc : content S = M.ret S) (hi : isC "Scripts" S = true) (ha : d_Scripts_amount [S] μ1 = .ok (.int (n : Nat)) μ1) : d__law_told [P, .int m] μ = .ok (.lst [.str "amount", .int (n : Nat)]) μ1 := by
  refine fn_ret rfl ?_
  have ev : toldE.v (Mp.start 3 [P, .int m]) μ = .ok S μ1 := e
  have ea : (Dn.prop "Scripts" d_Scripts_amount toldE).v (Mp.start 3 [P, .int m]) μ = .ok (.int (n : Nat)) μ1 := prop_v ev hc hi ha
  have el : (Dn.lst [(false, Dn.cst (.str "amount")), (false, Dn.prop "Scripts" d_Scripts_amount toldE)]).v (Mp.start 3 [P, .int m]) μ = .ok (.lst [.str "amount", .int (n : Nat)]) μ1 := by
    have es : evs (Mp.start 3 [P, .int m]) [(false, Dn.cst (.str "amount")), (false, Dn.prop "Scripts" d_Scripts_amount toldE)] μ = .ok [.str "amount", .int (n : Nat)] μ1 := by
      refine bnd (m := (Dn.cst _).v _) (a := .str "amount") (μ1 := μ) rfl (bnd (m := splice false _) (a := [.str "amount"]) (μ1 := μ) rfl ?_)
      refine bnd (m := evs _ [(false, Dn.prop "Scripts" d_Scripts_amount toldE)]) (a := [.int (n : Nat)]) (μ1 := μ1) ?_ rfl
      exact bnd (m := (Dn.prop _ _ _).v _) ea rfl
    exact bnd (m := evs _ _) es rfl
  rw [told_eq, sm_ret el]
theorem told_big {P : D} {m n : Nat} {μ μ1 : Mu} (e : mkS P m μ = .exc ⟨"TooMany", [("number", .int (n : Nat))]⟩ μ1) : d__law_told [P, .int m] μ = .ok (.lst [.str "many", .int (n : Nat)]) μ1 := by
  refine fn_ret rfl ?_
  have ev : toldE.v (Mp.start 3 [P, .int m]) μ = .exc ⟨"TooMany", [("number", .int (n : Nat))]⟩ μ1 := e
  have ea : (Dn.prop "Scripts" d_Scripts_amount toldE).v (Mp.start 3 [P, .int m]) μ = .exc ⟨"TooMany", [("number", .int (n : Nat))]⟩ μ1 := bndX (m := toldE.v (Mp.start 3 [P, .int m])) ev
  have er : Dm.ret (Dn.lst [(false, Dn.cst (.str "amount")), (false, Dn.prop "Scripts" d_Scripts_amount toldE)]) (Mp.start 3 [P, .int m]) μ = .exc ⟨"TooMany", [("number", .int (n : Nat))]⟩ μ1 := by
    refine sm_retX (bndX (m := evs _ _) ?_)
    refine bnd (m := (Dn.cst _).v _) (a := .str "amount") (μ1 := μ) rfl (bnd (m := splice false _) (a := [.str "amount"]) (μ1 := μ) rfl ?_)
    exact bndX (m := evs _ [(false, Dn.prop "Scripts" d_Scripts_amount toldE)]) (bndX (m := (Dn.prop _ _ _).v _) ea)
  rw [told_eq, er]
  rfl
theorem great4 (μ : Mu) : d__law_great [PW 4] μ = .ok (.bl true) μ := by
  obtain ⟨k, hk, e⟩ := sysW4.many_states allW4 (by rw [len4]; omega) μ
  exact great_of hk e
theorem plain_many (μ : Mu) : d_many_states [PW 0] μ = .ok (.int 341) μ := (sysW0.count allW0 (by rw [len0]; omega) μ).trans (by rw [len0]; rfl)
theorem one_many (μ : Mu) : d_many_states [PW 1] μ = .ok (.int 1023) μ := (sysW1.count allW1 (by rw [len1]; omega) μ).trans (by rw [len1]; rfl)
theorem told_m {m : Nat} {μ : Mu} (hm : m ≤ 1000) (h : 341 * m ≤ 200000) : d__law_told [PW 0, .int m] μ = .ok (.lst [.str "amount", .int (cnt (mvW 0) m firstW : Nat)]) (μ ++ [none]) := by
  obtain ⟨q, c, e⟩ := sysW0.made allW0 (μ := μ) hm (by rw [len0]; omega) (by rw [len0]; exact h)
  exact told_ok e rfl rfl (sysW0.amount c)
theorem told_x {m : Nat} {μ : Mu} (hm : m ≤ 1000) (h : 200000 < 341 * m) : ∃ o, d__law_told [PW 0, .int m] μ = .ok (.lst [.str "many", .int ((341 * m : Nat) : Int)]) (μ ++ [o]) := by
  have e := sysW0.mkX allW0 (μ := μ) hm (by rw [len0]; omega) (by rw [len0]; exact h)
  rw [len0] at e
  exact ⟨_, told_big e⟩
theorem cnt4 : cnt (mvW 0) 4 firstW = 256 := by decide +kernel
theorem cnt5 : cnt (mvW 0) 5 firstW = 0 := by decide +kernel
end Kt

/-! k18: the programs made, where the law makes them (own work; printed). -/
namespace Kt
open PySem Mp
theorem mkT0 {μ : Mu} (h : μ.length = 1) : d__law_endless [.bl true] μ = .ok PT (μ ++ [none, none]) := by
  match μ, h with
  | [a0], _ => kernel_rfl
theorem mkF0 {μ : Mu} (h : μ.length = 4) : d__law_endless [.bl false] μ = .ok PF (μ ++ [none, none]) := by
  match μ, h with
  | [a0, a1, a2, a3], _ => kernel_rfl
theorem mkW0_0 {μ : Mu} (h : μ.length = 7) : d__law_tower [.int 0] μ = .ok (PW 0) (μ ++ [none, none]) := by
  match μ, h with
  | [a0, a1, a2, a3, a4, a5, a6], _ => kernel_rfl
theorem mkW1_0 {μ : Mu} (h : μ.length = 9) : d__law_tower [.int 1] μ = .ok (PW 1) (μ ++ [none, none]) := by
  match μ, h with
  | [a0, a1, a2, a3, a4, a5, a6, a7, a8], _ => kernel_rfl
theorem mkT1 {μ : Mu} (h : μ.length = 18) : d__law_endless [.bl true] μ = .ok PT (μ ++ [none, none]) := by
  match μ, h with
  | [a0, a1, a2, a3, a4, a5, a6, a7, a8, a9, a10, a11, a12, a13, a14, a15, a16, a17], _ => kernel_rfl
theorem mkF1 {μ : Mu} (h : μ.length = 21) : d__law_endless [.bl false] μ = .ok PF (μ ++ [none, none]) := by
  match μ, h with
  | [a0, a1, a2, a3, a4, a5, a6, a7, a8, a9, a10, a11, a12, a13, a14, a15, a16, a17, a18, a19, a20], _ => kernel_rfl
theorem mkW0_1 {μ : Mu} (h : μ.length = 24) : d__law_tower [.int 0] μ = .ok (PW 0) (μ ++ [none, none]) := by
  match μ, h with
  | [a0, a1, a2, a3, a4, a5, a6, a7, a8, a9, a10, a11, a12, a13, a14, a15, a16, a17, a18, a19, a20, a21, a22, a23], _ => kernel_rfl
theorem mkW1_1 {μ : Mu} (h : μ.length = 26) : d__law_tower [.int 1] μ = .ok (PW 1) (μ ++ [none, none]) := by
  match μ, h with
  | [a0, a1, a2, a3, a4, a5, a6, a7, a8, a9, a10, a11, a12, a13, a14, a15, a16, a17, a18, a19, a20, a21, a22, a23, a24, a25], _ => kernel_rfl
theorem mkW4_0 {μ : Mu} (h : μ.length = 15) : d__law_tower [.int 4] μ = .ok (PW 4) (μ ++ [none, none]) := by
  match μ, h with
  | [a0, a1, a2, a3, a4, a5, a6, a7, a8, a9, a10, a11, a12, a13, a14], _ => kernel_rfl
end Kt

/-! k18: the law's drawn numbers (own work). -/
namespace Kt
open PySem Mp
/-- an expression gives an int -/
structure IV (e : Den) (ρ : Rho) (μ : Mu) (i : Int) : Prop where
  v : e.v ρ μ = .ok (.int i) μ
  q : e.q ρ μ = .ok (.val (.int i)) μ
section
variable {a b : Den} {ρ : Rho} {μ : Mu} {i j k : Int} {o : BOp}
theorem IV.bin (ha : IV a ρ μ i) (hb : IV b ρ μ j) (ho : binop o (.int i) (.int j) = some (.int k)) : IV (Dn.bin o a b) ρ μ k :=
  have h := bin_v (μ1 := μ) (μ2 := μ) ha.q hb.q rfl rfl ho
  ⟨h, q_val h⟩
theorem IV.int (ha : IV a ρ μ i) : IV (Dn.bi1 .int a) ρ μ i :=
  have h : (Dn.bi1 .int a).v ρ μ = .ok (.int i) μ := bnd (m := a.q ρ) ha.q rfl
  ⟨h, q_val h⟩
theorem IV.cst : IV (Dn.cst (.int i)) ρ μ i := ⟨rfl, rfl⟩
theorem IV.var {n : Nat} (h : ρ[n]? = some (some (.dat (.int i)))) : IV (Dn.var n) ρ μ i := by
  refine ⟨?_, ?_⟩
  · show valOf ρ n μ = _
    unfold valOf
    rw [h]
    rfl
  · show refVar ρ n μ = _
    unfold refVar
    rw [h]
    rfl
theorem IV.of {w : Rho → M D} (h : w ρ μ = .ok (.int i) μ) : IV (Den.ofV w) ρ μ i := ⟨h, q_val h⟩
theorem IV.neg (ha : IV a ρ μ i) : IV (Dn.neg a) ρ μ (-i) := .of (bnd (m := a.v ρ) ha.v rfl)
theorem add_ok : binop .add (.int i) (.int j) = some (.int (i + j)) := rfl
theorem sub_ok : binop .sub (.int i) (.int j) = some (.int (i - j)) := rfl
theorem mulS_ok (h : small i = true ∨ small j = true) : binop .mul (.int i) (.int j) = some (.int (i * j)) := by
  have e : (small i || small j) = true := by rcases h with h | h <;> simp [h]
  simp only [binop, e, if_true]
theorem mod_ok (h : 0 < j) : binop .mod (.int i) (.int j) = some (.int (i % j)) := by
  have e : j ≠ 0 := by omega
  simp only [binop, if_pos e, Int.fmod_eq_emod_of_nonneg i (Int.le_of_lt h)]
theorem fdiv_ok (h : 0 < j) (k : j < 1073741824) : binop .fdiv (.int i) (.int j) = some (.int (i.fdiv j)) := by
  have e : j ≠ 0 ∧ j.natAbs < 1073741824 := ⟨by omega, by omega⟩
  simp only [binop, if_pos e]
theorem pow_ok (h0 : 0 ≤ j) (h1 : j ≤ 1000) (h : i.natAbs < 2 ^ 64) : binop .pow (.int i) (.int j) = some (.int (i ^ j.toNat)) := by
  have e : 0 ≤ j ∧ j ≤ 1000 ∧ i.natAbs < 2 ^ 64 := ⟨h0, h1, h⟩
  simp only [binop, if_pos e]
theorem small_of (h : -1000000000000000000 < i) (k : i < 1000000000000000000) : small i = true := by
  unfold small
  rw [decide_eq_true (by omega), decide_eq_true (by omega)]
  rfl
theorem natAbs_of (h : 0 ≤ i) (k : i < 1000000000000000000) : i.natAbs < 2 ^ 64 := by omega
theorem cmpI_t {o : COp} {r : Bool} (ha : IV a ρ μ i) (hb : IV b ρ μ j) (hl : leftOf ρ o (.val (.int i)) μ = .ok (.int i) μ) (h : cmpop o (.int i) (.int j) = some r) : (Dn.cmp o a b).t ρ μ = .ok r μ := cmp_t ha.q hb.q hl rfl h
end
/-! the numbers -/
def nuE : List D := List.replicate 8 (.int 420)
def nuS : Sm := Dm.if_ (Dn.and_ [(false, Dn.cmp .ge (Dn.var 3) (Dn.bin .pow (Dn.cst (.int 10)) (Dn.cst (.int 18)))), (false, Dn.cmp .gt (Dn.var 4) (Dn.cst (.int 0)))])
  (Dm.cons (Dm.app 5 (Dn.bin .mod (Dn.bi1 .int (Dn.var 4)) (Dn.idx (Dn.var 2) (Dn.var 6)))) (Dm.asg (.name 4) (Dn.bin .fdiv (Dn.var 4) (Dn.idx (Dn.var 2) (Dn.var 6)))))
  (Dm.cons (Dm.asg (.name 7) (Dn.bin .pow (Dn.bin .add (Dn.bin .add (Dn.bin .mod (Dn.bi1 .int (Dn.var 3)) (Dn.cst (.int 2147483629))) (Dn.bin .mul (Dn.cst (.int 7919)) (Dn.var 1))) (Dn.cst (.int 1))) (Dn.cst (.int 3))))
  (Dm.cons (Dm.asg (.name 7) (Dn.bin .mul (Dn.bin .add (Dn.bin .mod (Dn.bi1 .int (Dn.var 7)) (Dn.cst (.int 2147483647))) (Dn.bin .mul (Dn.cst (.int 104729)) (Dn.bin .add (Dn.var 6) (Dn.cst (.int 1))))) (Dn.bin .add (Dn.var 6) (Dn.cst (.int 3)))))
  (Dm.cons (Dm.asg (.name 7) (Dn.bin .mod (Dn.bi1 .int (Dn.var 7)) (Dn.cst (.int 2147483629))))
  (Dm.cons (Dm.asg (.name 7) (Dn.bin .mul (Dn.bin .mod (Dn.bi1 .int (Dn.bin .pow (Dn.var 7) (Dn.cst (.int 5)))) (Dn.cst (.int 2147483647))) (Dn.cst (.int 48271))))
  (Dm.cons (Dm.asg (.name 7) (Dn.bin .mod (Dn.bi1 .int (Dn.var 7)) (Dn.cst (.int 2147483629))))
  (Dm.app 5 (Dn.bin .mod (Dn.bi1 .int (Dn.bin .fdiv (Dn.var 7) (Dn.cst (.int 16)))) (Dn.idx (Dn.var 2) (Dn.var 6)))))))))
def nr (cell salt whole left : Int) (l : List Int) (x6 x7 : Option O) : Rho := [some (.dat (.int cell)), some (.dat (.int salt)), some (.dat (.lst nuE)), some (.dat (.int whole)), some (.dat (.int left)), some (.own (.lst (l.map D.int))), x6, x7]
theorem nu_ix {k : Nat} (h : k < 8) : Mp.index (.lst nuE) (.int k) = some (.int 420) := by
  show at_ nuE (k : Int) = _
  rw [at_nat (by simpa [nuE] using h)]
  unfold nuE
  rw [List.getElem_replicate]
theorem ex_cons {α β : Type} {F : α → β → Res Out} {s r : Sm} {ρ ρ1 : Rho} {μ μ1 : Mu} (h : s ρ μ = .ok (.next ρ1) μ1) (k : ∃ a b, r ρ1 μ1 = F a b) : ∃ a b, Dm.cons s r ρ μ = F a b :=
  let ⟨a, b, k⟩ := k
  ⟨a, b, sm_cons h k⟩
theorem nuTurn {cell salt whole left : Int} {l : List Int} {k : Nat} {x7 : Option O} {μ : Mu} (hs : 0 ≤ salt) (hs2 : salt ≤ 10) (hk : k < 8) (hl : l.length < 1000) :
    ∃ left' i x7', nuS (nr cell salt whole left l (some (.dat (.int k))) x7) μ = .ok (.next (nr cell salt whole left' (l ++ [i]) (some (.dat (.int k))) x7')) μ := by
  have app : ∀ {left' i : Int} {x : Option O} {e : Den}, IV e (nr cell salt whole left' l (some (.dat (.int k))) x) μ i → Dm.app 5 e (nr cell salt whole left' l (some (.dat (.int k))) x) μ = .ok (.next (nr cell salt whole left' (l ++ [i]) (some (.dat (.int k))) x)) μ := fun {left' i x e} h => by
    refine (sm_app (i := 5) (l := l.map D.int) (d := .int i) rfl h.v (by rw [List.length_map]; unfold line; omega)).trans ?_
    unfold nr
    rw [List.map_append]
    rfl
  have ix : ∀ {left' : Int} {l' : List Int} {x : Option O}, IV (Dn.idx (Dn.var 2) (Dn.var 6)) (nr cell salt whole left' l' (some (.dat (.int k))) x) μ 420 := fun {left' l' x} => .of (idx_v (qa := .val (.lst nuE)) (y := .int k) (z := .lst nuE) rfl rfl rfl (nu_ix hk))
  have test : ∃ r, (Dn.and_ [(false, Dn.cmp .ge (Dn.var 3) (Dn.bin .pow (Dn.cst (.int 10)) (Dn.cst (.int 18)))), (false, Dn.cmp .gt (Dn.var 4) (Dn.cst (.int 0)))]).t (nr cell salt whole left l (some (.dat (.int k))) x7) μ = .ok r μ := by
    have t1 : (Dn.cmp .ge (Dn.var 3) (Dn.bin .pow (Dn.cst (.int 10)) (Dn.cst (.int 18)))).t (nr cell salt whole left l (some (.dat (.int k))) x7) μ = .ok (decide ((10 : Int) ^ (18 : Int).toNat ≤ whole)) μ :=
      cmpI_t (i := whole) (.var rfl) (.bin .cst .cst (pow_ok (by decide) (by decide) (by decide))) rfl rfl
    have t2 : (Dn.cmp .gt (Dn.var 4) (Dn.cst (.int 0))).t (nr cell salt whole left l (some (.dat (.int k))) x7) μ = .ok (decide ((0 : Int) < left)) μ := cmpI_t (i := left) (.var rfl) .cst rfl rfl
    refine ⟨decide ((10 : Int) ^ (18 : Int).toNat ≤ whole) && decide ((0 : Int) < left), ?_⟩
    refine bnd (m := (Dn.cmp _ _ _).t _) t1 ?_
    cases decide ((10 : Int) ^ (18 : Int).toNat ≤ whole)
    · rfl
    · exact t2
  obtain ⟨r, ht⟩ := test
  cases r with
  | true =>
    refine ⟨left.fdiv 420, left % 420, x7, sm_t ht (sm_cons (app (.bin (.int (.var rfl)) ix (mod_ok (by decide)))) ?_)⟩
    have h : IV (Dn.bin .fdiv (Dn.var 4) (Dn.idx (Dn.var 2) (Dn.var 6))) (nr cell salt whole left (l ++ [left % 420]) (some (.dat (.int k))) x7) μ (left.fdiv 420) := .bin (.var rfl) ix (fdiv_ok (by decide) (by decide))
    exact sm_asg h.v rfl
  | false =>
    have asg7 : ∀ {x : Option O} {e : Den} {i : Int}, IV e (nr cell salt whole left l (some (.dat (.int k))) x) μ i → Dm.asg (.name 7) e (nr cell salt whole left l (some (.dat (.int k))) x) μ = .ok (.next (nr cell salt whole left l (some (.dat (.int k))) (some (.dat (.int i))))) μ := fun h => sm_asg h.v rfl
    have w := Int.emod_lt_of_pos whole (show (0 : Int) < 2147483629 by decide)
    have w0 := Int.emod_nonneg whole (show (2147483629 : Int) ≠ 0 by decide)
    suffices h : ∃ (i : Int) (x7' : Option O), _ = Res.ok (Out.next (nr cell salt whole left (l ++ [i]) (some (.dat (.int k))) x7')) μ from
      let ⟨i, x7', h⟩ := h
      ⟨left, i, x7', sm_f ht h⟩
    refine ex_cons (F := fun i x7' => Res.ok (Out.next (nr cell salt whole left (l ++ [i]) (some (.dat (.int k))) x7')) μ) (asg7 (i := (whole % 2147483629 + 7919 * salt + 1) ^ (3 : Int).toNat) (.bin (.bin (.bin (.bin (.int (.var rfl)) .cst (mod_ok (by decide))) (.bin .cst (.var rfl) (mulS_ok (.inl (by decide)))) add_ok) .cst add_ok) .cst (pow_ok (by decide) (by decide) (natAbs_of (by omega) (by omega))))) ?_
    refine ex_cons (F := fun i x7' => Res.ok (Out.next (nr cell salt whole left (l ++ [i]) (some (.dat (.int k))) x7')) μ) (asg7 (.bin (.bin (.bin (.int (.var rfl)) .cst (mod_ok (by decide))) (.bin .cst (.bin (.var rfl) .cst add_ok) (mulS_ok (.inl (by decide)))) add_ok) (.bin (.var rfl) .cst add_ok) (mulS_ok (.inr (small_of (by omega) (by omega)))))) ?_
    refine ex_cons (F := fun i x7' => Res.ok (Out.next (nr cell salt whole left (l ++ [i]) (some (.dat (.int k))) x7')) μ) (asg7 (.bin (.int (.var rfl)) .cst (mod_ok (by decide)))) ?_
    refine ex_cons (F := fun i x7' => Res.ok (Out.next (nr cell salt whole left (l ++ [i]) (some (.dat (.int k))) x7')) μ) (asg7 (.bin (.bin (.int (.bin (.var rfl) .cst (pow_ok (by decide) (by decide) (natAbs_of (Int.emod_nonneg _ (by decide)) (Int.lt_trans (Int.emod_lt_of_pos _ (by decide)) (by decide)))))) .cst (mod_ok (by decide))) .cst (mulS_ok (.inr (by decide))))) ?_
    refine ex_cons (F := fun i x7' => Res.ok (Out.next (nr cell salt whole left (l ++ [i]) (some (.dat (.int k))) x7')) μ) (asg7 (.bin (.int (.var rfl)) .cst (mod_ok (by decide)))) ?_
    exact ⟨_, _, app (.bin (.int (.bin (.var rfl) .cst (fdiv_ok (by decide) (by decide)))) ix (mod_ok (by decide)))⟩
theorem nuFor {cell salt whole : Int} {μ : Mu} (hs : 0 ≤ salt) (hs2 : salt ≤ 10) : ∀ (n : Nat) {k : Nat} {left : Int} {l : List Int} {x6 x7 : Option O}, k + n ≤ 8 → l.length + n < 1000 →
    ∃ left' l' x6' x7', l'.length = l.length + n ∧ forM (nr cell salt whole left l x6 x7) (.name 6) nuS (rangeL (k : Int) 1 n) μ = .ok (.next (nr cell salt whole left' l' x6' x7')) μ
  | 0, k, left, l, x6, x7, _, _ => ⟨left, l, x6, x7, rfl, rfl⟩
  | n + 1, k, left, l, x6, x7, h, h2 => by
    obtain ⟨left1, i, x71, e1⟩ := nuTurn (cell := cell) (whole := whole) (left := left) (l := l) (k := k) (x7 := x7) (μ := μ) hs hs2 (by omega) (by omega)
    obtain ⟨left', l', x6', x7', e2, e3⟩ := nuFor (cell := cell) (whole := whole) (μ := μ) hs hs2 n (k := k + 1) (left := left1) (l := l ++ [i]) (x6 := some (.dat (.int k))) (x7 := x71) (by omega) (by rw [List.length_append]; simp; omega)
    refine ⟨left', l', x6', x7', by rw [e2, List.length_append]; simp; omega, ?_⟩
    have er : rangeL (k : Int) 1 (n + 1) = .int k :: rangeL ((k + 1 : Nat) : Int) 1 n := rfl
    rw [er]
    exact for_cons (ρ1 := nr cell salt whole left l (some (.dat (.int k))) x7) rfl e1 e3
theorem numbers_ok {cell salt : Int} {μ : Mu} (hs : 0 ≤ salt) (hs2 : salt ≤ 10) : ∃ l : List Int, l.length = 8 ∧ d__law_numbers [.int cell, .int salt, .lst nuE] μ = .ok (.lst (l.map D.int)) μ := by
  have hm : ∃ whole : Int, (Dn.bi2 .max (Dn.bi1 .int (Dn.var 0)) (Dn.bi1 .int (Dn.bin .sub (Dn.neg (Dn.cst (.int 1))) (Dn.var 0)))).v (Mp.start 8 [.int cell, .int salt, .lst nuE]) μ = .ok (.int whole) μ := ⟨_, rfl⟩
  obtain ⟨whole, hw⟩ := hm
  obtain ⟨left, l, x6, x7, hl, e⟩ := nuFor (cell := cell) (whole := whole) (μ := μ) hs hs2 8 (k := 0) (left := whole) (l := []) (x6 := none) (x7 := none) (by omega) (by simp)
  refine ⟨l, hl, fn_ret rfl ?_⟩
  refine sm_cons (sm_asg hw rfl) (sm_cons (sm_asg (d := .int whole) rfl rfl) (sm_cons (sm_own (d := .lst []) rfl rfl) ?_))
  refine sm_cons (sm_for (ds := rangeL 0 1 8) (μ1 := μ) ?_ e) ?_
  · refine bnd (m := (Dn.bi1 .len (Dn.var 2)).v _) (a := .int ((8 : Nat) : Int)) (μ1 := μ) rfl ?_
    rw [range1_ok (by omega)]
    rfl
  · exact sm_cons (ρ1 := [some (.dat (.int cell)), some (.dat (.int salt)), some (.dat (.lst nuE)), some (.dat (.int whole)), some (.dat (.int left)), some (.dat (.lst (l.map D.int))), x6, x7]) rfl (sm_ret rfl)
/-! the pool -/
def pool (l : List Int) (a : Nat) : D := .lst [.lst (l.map D.int), .int a]
theorem pool_ok {cell salt : Int} {μ : Mu} (hs : 0 ≤ salt) (hs2 : salt ≤ 10) : ∃ l : List Int, l.length = 8 ∧ d__law_pool [.int cell, .int salt, .int 8] μ = .ok (.loc μ.length) (μ ++ [some (pool l 0)]) := by
  obtain ⟨l, hl, e⟩ := numbers_ok (cell := cell) (μ := μ) hs hs2
  refine ⟨l, hl, fn_ret rfl (sm_ret ?_)⟩
  have en : (Dn.bin .mul (Dn.lst [(false, Dn.cst (.int 420))]) (Dn.var 2)).v (Mp.start 3 [.int cell, .int salt, .int 8]) μ = .ok (.lst nuE) μ := by kernel_rfl
  have ec : (Dn.call d__law_numbers [(false, Dn.var 0), (false, Dn.var 1), (false, Dn.bin .mul (Dn.lst [(false, Dn.cst (.int 420))]) (Dn.var 2))]).v (Mp.start 3 [.int cell, .int salt, .int 8]) μ = .ok (.lst (l.map D.int)) μ := by
    refine dn_call (ds := [.int cell, .int salt, .lst nuE]) (μ1 := μ) ?_ e
    refine bnd (m := (Dn.var 0).v _) (a := .int cell) (μ1 := μ) rfl (bnd (m := splice false _) (a := [.int cell]) (μ1 := μ) rfl (bnd (m := evs _ _) (a := [.int salt, .lst nuE]) (μ1 := μ) ?_ rfl))
    refine bnd (m := (Dn.var 1).v _) (a := .int salt) (μ1 := μ) rfl (bnd (m := splice false _) (a := [.int salt]) (μ1 := μ) rfl (bnd (m := evs _ _) (a := [.lst nuE]) (μ1 := μ) ?_ rfl))
    exact bnd (m := (Dn.bin _ _ _).v _) en rfl
  have el : (Dn.lst [(false, Dn.call d__law_numbers [(false, Dn.var 0), (false, Dn.var 1), (false, Dn.bin .mul (Dn.lst [(false, Dn.cst (.int 420))]) (Dn.var 2))]), (false, Dn.cst (.int 0))]).v (Mp.start 3 [.int cell, .int salt, .int 8]) μ = .ok (pool l 0) μ := by
    have es : evs (Mp.start 3 [.int cell, .int salt, .int 8]) [(false, Dn.call d__law_numbers [(false, Dn.var 0), (false, Dn.var 1), (false, Dn.bin .mul (Dn.lst [(false, Dn.cst (.int 420))]) (Dn.var 2))]), (false, Dn.cst (.int 0))] μ = .ok [.lst (l.map D.int), .int 0] μ :=
      bnd (m := (Dn.call _ _).v _) ec rfl
    exact bnd (m := evs _ _) es rfl
  exact bnd (m := (Dn.lst _).v _) el rfl
theorem draw_ok {l : List Int} {a m : Nat} {μ : Mu} {n : Nat} (hn : μ[n]? = some (some (pool l a))) (ha : a < l.length) (hm : 0 < m) :
    ∃ r : Nat, r < m ∧ d__law_draw [.loc n, .int m] μ = .ok (.int r) (μ.set n (some (pool l (a + 1)))) := by
  have hlt : n < μ.length := (List.getElem?_eq_some_iff.mp hn).1
  have hc : content (.loc n) μ = .ok (pool l a) μ := by
    show (match μ[n]? with | some (some d) => Res.ok d μ | _ => .bad) = _
    rw [hn]
  have hc2 : content (.loc n) (μ.set n (some (pool l (a + 1)))) = .ok (pool l (a + 1)) (μ.set n (some (pool l (a + 1)))) := by
    show (match (μ.set n (some (pool l (a + 1))))[n]? with | some (some d) => Res.ok d (μ.set n (some (pool l (a + 1)))) | _ => .bad) = _
    rw [List.getElem?_set_self hlt]
  have r0 := Int.emod_nonneg l[a] (show (m : Int) ≠ 0 by omega)
  have r1 := Int.emod_lt_of_pos l[a] (show (0 : Int) < m by omega)
  refine ⟨(l[a] % (m : Int)).toNat, by omega, fn_ret rfl ?_⟩
  refine sm_cons (ρ1 := [some (.dat (.loc n)), some (.dat (.int m)), some (.dat (.int a))]) (μ1 := μ) (sm_asg (idx_v (qa := .val (.loc n)) (y := .int 1) (z := pool l a) rfl rfl hc rfl) rfl) ?_
  have hset : Dm.setI (Dn.var 0) (Dn.cst (.int 1)) (Dn.bin .add (Dn.var 2) (Dn.cst (.int 1))) [some (.dat (.loc n)), some (.dat (.int m)), some (.dat (.int a))] μ = .ok (.next [some (.dat (.loc n)), some (.dat (.int m)), some (.dat (.int a))]) (μ.set n (some (pool l (a + 1)))) := by
    have hv : IV (Dn.bin .add (Dn.var 2) (Dn.cst (.int 1))) [some (.dat (.loc n)), some (.dat (.int m)), some (.dat (.int a))] μ ((a + 1 : Nat) : Int) := .bin (.var rfl) .cst (by rw [add_ok]; rfl)
    refine bnd (m := (Dn.bin _ _ _).v _) hv.v (bnd (m := (Dn.var 0).q _) (a := .val (.loc n)) (μ1 := μ) rfl (bnd (m := (Dn.cst _).v _) (a := .int 1) (μ1 := μ) rfl ?_))
    refine bnd (m := change _ _ (.val (.loc n))) (a := [some (.dat (.loc n)), some (.dat (.int m)), some (.dat (.int a))]) (μ1 := μ.set n (some (pool l (a + 1)))) ?_ rfl
    show (match μ[n]? with
      | some (some d) => (match setIn (.int 1) (.int ((a + 1 : Nat) : Int)) d with
        | some d' => Res.ok [some (O.dat (.loc n)), some (.dat (.int m)), some (.dat (.int a))] (μ.set n (some d'))
        | none => .bad)
      | _ => .bad) = _
    rw [hn]
    rfl
  refine sm_cons hset (sm_ret ?_)
  have h0 : (Dn.idx (Dn.var 0) (Dn.cst (.int 0))).v [some (.dat (.loc n)), some (.dat (.int m)), some (.dat (.int a))] (μ.set n (some (pool l (a + 1)))) = .ok (.lst (l.map D.int)) (μ.set n (some (pool l (a + 1)))) := idx_v (qa := .val (.loc n)) (y := .int 0) (z := pool l (a + 1)) rfl rfl hc2 rfl
  have hlen : IV (Dn.bi1 .len (Dn.idx (Dn.var 0) (Dn.cst (.int 0)))) [some (.dat (.loc n)), some (.dat (.int m)), some (.dat (.int a))] (μ.set n (some (pool l (a + 1)))) (l.length : Nat) := by
    refine .of (bnd (m := (Dn.idx _ _).q _) (q_val h0) ?_)
    show Res.ok (D.int ((l.map D.int).length : Nat)) _ = _
    rw [List.length_map]
  have ht : (Dn.cmp .lt (Dn.var 2) (Dn.bi1 .len (Dn.idx (Dn.var 0) (Dn.cst (.int 0))))).t [some (.dat (.loc n)), some (.dat (.int m)), some (.dat (.int a))] (μ.set n (some (pool l (a + 1)))) = .ok true (μ.set n (some (pool l (a + 1)))) :=
    cmpI_t (i := a) (.var rfl) hlen rfl (by show some (decide ((a : Int) < (l.length : Nat))) = _; rw [decide_eq_true (by exact_mod_cast ha)])
  have hi : IV (Dn.idx (Dn.idx (Dn.var 0) (Dn.cst (.int 0))) (Dn.var 2)) [some (.dat (.loc n)), some (.dat (.int m)), some (.dat (.int a))] (μ.set n (some (pool l (a + 1)))) l[a] := by
    refine .of (idx_v (qa := .val (.lst (l.map D.int))) (y := .int a) (z := .lst (l.map D.int)) (q_val h0) rfl rfl ?_)
    show at_ (l.map D.int) (a : Int) = _
    rw [at_nat (by rw [List.length_map]; exact ha), List.getElem_map]
  have hr : IV (Dn.bin .mod (Dn.bi1 .int (Dn.idx (Dn.idx (Dn.var 0) (Dn.cst (.int 0))) (Dn.var 2))) (Dn.var 1)) [some (.dat (.loc n)), some (.dat (.int m)), some (.dat (.int a))] (μ.set n (some (pool l (a + 1)))) ((l[a] % (m : Int)).toNat : Int) := by
    refine .bin (.int hi) (.var rfl) ?_
    rw [mod_ok (by omega), Int.toNat_of_nonneg r0]
  exact bnd (m := (Dn.cmp _ _ _).t _) ht hr.v
theorem opened_ok {ns : List Int} {k : Nat} {μ : Mu} (hk : k ≤ 10) (h : k < ns.length ∨ ns = []) : ∃ l : List Int, l.length = 8 ∧ d__law_opened [.scr ns, .int k, .int 8] μ = .ok (.loc μ.length) (μ ++ [some (pool l 0)]) := by
  have hx : ∃ cell : Int, (Dn.ite (Dn.cmp .ne (Dn.var 0) (Dn.lst [])) (Dn.idx (Dn.var 0) (Dn.var 1)) (Dn.cst (.int 7))).v (Mp.start 4 [.scr ns, .int k, .int 8]) μ = .ok (.int cell) μ := by
    have ht : (Dn.cmp .ne (Dn.var 0) (Dn.lst [])).t (Mp.start 4 [.scr ns, .int k, .int 8]) μ = .ok (!ns.isEmpty) μ := rfl
    cases ns with
    | nil => exact ⟨7, bnd (m := (Dn.cmp _ _ _).t _) ht rfl⟩
    | cons z zs =>
      have hk : k < (z :: zs).length := by
        rcases h with h | h
        · exact h
        · cases h
      refine ⟨(z :: zs)[k], bnd (m := (Dn.cmp _ _ _).t _) ht (idx_v (qa := .val (.scr (z :: zs))) (y := .int k) (z := .scr (z :: zs)) rfl rfl rfl ?_)⟩
      show (at_ (z :: zs) (k : Int)).map D.int = _
      rw [at_nat hk]
      rfl
  obtain ⟨cell, hx⟩ := hx
  obtain ⟨l, hl, e⟩ := pool_ok (cell := cell) (salt := k) (μ := μ) (by omega) (by omega)
  exact ⟨l, hl, fn_ret rfl (sm_cons (sm_asg hx rfl) (sm_ret (dn_call rfl e)))⟩
end Kt

/-! k18: the law's turn, part by part (own work). -/
namespace Kt
open PySem Mp
section
variable {ρ : Rho} {μ μ1 μ2 : Mu} {e i a : Den} {x k d S P : D}
theorem mkS_v {l : Dens} {m : Nat} (h : evs ρ l μ = .ok [P, .int m] μ1) (k : mkS P m μ1 = .ok S μ2) : (Dn.frz (Dn.make "Scripts" d_Scripts___init__ l [])).v ρ μ = .ok S μ2 := by
  have z : (Dn.frz (Dn.make "Scripts" d_Scripts___init__ l [])).v ρ μ = Res.bind (Res.bind (evs ρ l μ) fun ds => makeM "Scripts" d_Scripts___init__ (ds ++ [])) frzM := rfl
  rw [z, h]
  exact k
theorem item_v {c : String} {f : Fn} (he : e.v ρ μ = .ok x μ) (hi : i.v ρ μ = .ok k μ) (hc : content x = M.ret x) (hk : isC c x = true) (hf : f [x, k] μ = .ok d μ) : (Dn.item c f e i).v ρ μ = .ok d μ := by
  refine bnd (m := e.v ρ) he (bnd (m := i.v ρ) hi (bnd (m := content x) (a := x) (μ1 := μ) (by rw [hc]; rfl) ?_))
  rw [if_pos hk]
  exact noExc_eq hf
theorem meth_v {c m : String} {f : Fn} {l : Dens} {ds : List D} (he : e.v ρ μ = .ok x μ) (hc : content x = M.ret x) (hk : isM c m x = true) (hl : evs ρ l μ = .ok ds μ) (hf : f (x :: ds) μ = .ok d μ) : (Dn.meth c m f e l).v ρ μ = .ok d μ := by
  refine bnd (m := e.v ρ) he (bnd (m := content x) (a := x) (μ1 := μ) (by rw [hc]; rfl) ?_)
  rw [if_pos hk]
  exact bnd (m := evs ρ l) hl hf
theorem among_f {c : String} {f : Fn} (ha : a.v ρ μ = .ok k μ) (he : e.v ρ μ = .ok x μ) (hc : content x = M.ret x) (hk : isC c x = true) (hf : f [x, k] μ = .ok (.bl true) μ) : (Dn.among true c f a e).t ρ μ = .ok false μ := by
  refine bnd (m := a.v ρ) ha (bnd (m := e.v ρ) he (bnd (m := content x) (a := x) (μ1 := μ) (by rw [hc]; rfl) ?_))
  rw [if_pos hk]
  exact bnd (m := noExc (f [x, k])) (noExc_eq hf) rfl
theorem evs1 (h : e.v ρ μ = .ok d μ1) : evs ρ [(false, e)] μ = .ok [d] μ1 := bnd (m := e.v ρ) h rfl
theorem evs2 {d2 : D} (h : e.v ρ μ = .ok d μ1) (h2 : i.v ρ μ1 = .ok d2 μ2) : evs ρ [(false, e), (false, i)] μ = .ok [d, d2] μ2 := bnd (m := e.v ρ) h (bnd (m := splice false d) (a := [d]) (μ1 := μ1) rfl (bnd (m := evs ρ [(false, i)]) (evs1 h2) rfl))
theorem ne_int {n : Int} : cmpop .ne (.int n) (.int n) = some false := by
  show (some (n == n)).map (!·) = _
  simp
theorem ne_self {d : D} (hp : plain 64 d = true) (he : eqv d d = true) (hs : ∀ l, d ≠ .scr l) : cmpop .ne d d = some false := by
  have z : (eqM d d).map (!·) = some false := by
    unfold eqM
    rw [hp, he]
    rfl
  cases d with
  | scr l => exact absurd rfl (hs l)
  | _ => exact z
end
/-! lists of rows -/
theorem plains_rep (m : Nat) : plains 63 (List.replicate m (rowM 0)) = true := by
  induction m with
  | zero => rfl
  | succ n ih =>
    have z : plain 63 (rowM 0) = true := by kernel_rfl
    show (plain 63 (rowM 0) && plains 63 (List.replicate n (rowM 0))) = true
    rw [ih, z]
    rfl
theorem eqvs_rep (m : Nat) : eqvs (List.replicate m (rowM 0)) (List.replicate m (rowM 0)) = true := by
  induction m with
  | zero => rfl
  | succ n ih =>
    have z : eqvs (rowM 0 :: List.replicate n (rowM 0)) (rowM 0 :: List.replicate n (rowM 0)) = (eqv (rowM 0) (rowM 0) && eqvs (List.replicate n (rowM 0)) (List.replicate n (rowM 0))) := by simp [eqvs]
    show eqvs (rowM 0 :: List.replicate n (rowM 0)) (rowM 0 :: List.replicate n (rowM 0)) = true
    have z2 : eqv (rowM 0) (rowM 0) = true := by kernel_rfl
    rw [z, ih, z2]
    rfl
theorem ne_rep (m : Nat) : cmpop .ne (.lst (List.replicate m (rowM 0))) (.lst (List.replicate m (rowM 0))) = some false :=
  ne_self (by show plains 63 _ = true; exact plains_rep m) (by have z : eqv (.lst (List.replicate m (rowM 0))) (.lst (List.replicate m (rowM 0))) = eqvs (List.replicate m (rowM 0)) (List.replicate m (rowM 0)) := by simp [eqv]
                                                               rw [z]; exact eqvs_rep m) (fun l => D.noConfusion)
theorem flat_rep (m : Nat) : (List.replicate m [rowM 0]).flatten = List.replicate m (rowM 0) := by
  induction m with
  | zero => rfl
  | succ n ih => rw [List.replicate_succ, List.flatten_cons, ih]; rfl
theorem rep_ok {m : Nat} (h : m ≤ 1000) : binop .mul (.lst [rowM 0]) (.int m) = some (.lst (List.replicate m (rowM 0))) := by
  have e : (decide (-(2 ^ 62) ≤ (m : Int)) && decide ((m : Int) < 2 ^ 62) && decide (([rowM 0] : List D).length * (m : Int).toNat ≤ line)) = true := by
    rw [decide_eq_true (by omega), decide_eq_true (by omega), Int.toNat_natCast, decide_eq_true (by unfold line; simp; omega)]
    rfl
  simp only [binop]
  rw [if_pos e, Int.toNat_natCast, flat_rep]
theorem pathF : ∀ {k n : Nat} {ms : List D}, Path mvF k () n ms → ms = List.replicate k (rowM 0)
  | 0, _, _, h => by cases h; rfl
  | k + 1, _, _, h => by
    cases h with
    | cons e h hn =>
      rename_i n' pre post p ms
      match pre, e with
      | [], e =>
        have e : [(rowM 0, ())] = p :: post := e
        simp only [List.cons.injEq] at e
        obtain ⟨rfl, _⟩ := e
        rw [pathF h]
        rfl
      | a :: c, e =>
        have e := congrArg List.length e
        simp [mvF] at e
theorem pathF_mk : ∀ k : Nat, Path mvF k () 0 (List.replicate k (rowM 0))
  | 0 => .nil ()
  | k + 1 => .cons (pre := []) (post := []) (p := (rowM 0, ())) rfl (pathF_mk k) rfl
/-! the turn -/
def lw (ns : List Int) (k : Int) (x2 x3 x4 x5 x6 x7 x8 : Option O) : Rho := [some (.dat (.scr ns)), some (.dat (.int k)), x2, x3, x4, x5, x6, x7, x8]
def ls1 : Sm := Dm.asg (.name 2) (Dn.call d__law_opened [(false, Dn.var 0), (false, Dn.var 1), (false, Dn.cst (.int 8))])
def ls2 : Sm := Dm.asg (.name 3) (Dn.idx (Dn.lst [(false, Dn.cst (.int 1000)), (false, Dn.cst (.int 7)), (false, Dn.cst (.int 100)), (false, Dn.cst (.int 999)), (false, Dn.cst (.int 0)), (false, Dn.cst (.int 1))]) (Dn.call d__law_draw [(false, Dn.var 2), (false, Dn.cst (.int 6))]))
def ls3 : Sm := Dm.asgs [4, 5] [(false, Dn.frz (Dn.make "Scripts" d_Scripts___init__ [(false, Dn.call d__law_endless [(false, Dn.cst (.bl true))]), (false, Dn.var 3)] [])), (false, Dn.frz (Dn.make "Scripts" d_Scripts___init__ [(false, Dn.call d__law_endless [(false, Dn.cst (.bl false))]), (false, Dn.var 3)] []))]
def ls4 : Sm := Dm.if_ (Dn.or_ [(false, Dn.cmp .ne (Dn.prop "Scripts" d_Scripts_amount (Dn.var 4)) (Dn.call d__law_sum [(false, Dn.var 3)])), (false, Dn.cmp .ne (Dn.prop "Scripts" d_Scripts_length (Dn.var 4)) (Dn.var 3)), (false, Dn.cmp .ne (Dn.prop "Scripts" d_Scripts_amount (Dn.var 5)) (Dn.cst (.int 1)))]) (Dm.ret (Dn.cst (.bl false))) (Dm.nil)
def ls5 : Sm := Dm.if_ (Dn.or_ [(false, Dn.cmp .ne (Dn.item "Scripts" d_Scripts___getitem__ (Dn.var 5) (Dn.cst (.int 0))) (Dn.bin .mul (Dn.lst [(false, Dn.tup [(false, Dn.cst (.str "row")), (false, Dn.cst (.int 0))])]) (Dn.var 3))), (false, Dn.cmp .ne (Dn.meth "Scripts" "number_of" d_Scripts_number_of (Dn.var 5) [(false, Dn.bin .mul (Dn.lst [(false, Dn.tup [(false, Dn.cst (.str "row")), (false, Dn.cst (.int 0))])]) (Dn.var 3))]) (Dn.cst (.int 0)))]) (Dm.ret (Dn.cst (.bl false))) (Dm.nil)
def ls6b : Sm := Dm.cons (Dm.asg (.name 7) (Dn.item "Scripts" d_Scripts___getitem__ (Dn.var 4) (Dn.var 6))) (Dm.if_ (Dn.or_ [(false, Dn.cmp .ne (Dn.bi1 .len (Dn.var 7)) (Dn.var 3)), (false, Dn.cmp .ne (Dn.meth "Scripts" "number_of" d_Scripts_number_of (Dn.var 4) [(false, Dn.var 7)]) (Dn.var 6)), (false, Dn.among true "Scripts" d_Scripts___contains__ (Dn.var 7) (Dn.var 4))]) (Dm.ret (Dn.cst (.bl false))) (Dm.nil))
def ls6e : Den := Dn.lst [(false, Dn.cst (.int 0)), (false, Dn.bin .sub (Dn.prop "Scripts" d_Scripts_amount (Dn.var 4)) (Dn.cst (.int 1))), (false, Dn.bin .mod (Dn.bin .mul (Dn.bin .add (Dn.call d__law_draw [(false, Dn.var 2), (false, Dn.cst (.int 420))]) (Dn.cst (.int 1))) (Dn.bin .pow (Dn.cst (.int 10)) (Dn.cst (.int 9)))) (Dn.prop "Scripts" d_Scripts_amount (Dn.var 4)))]
def ls6 : Sm := Dm.for_ (.name 6) (Di.val ls6e) ls6b
def ls7 : Sm := Dm.asg (.name 8) (Dn.call d__law_tower [(false, Dn.cst (.int 0))])
def ls8 : Sm := Dm.if_ (Dn.or_ [(false, Dn.cmp .ne (Dn.call d_many_states [(false, Dn.var 8)]) (Dn.cst (.int 341))), (false, Dn.cmp .ne (Dn.call d_many_states [(false, Dn.call d__law_tower [(false, Dn.cst (.int 1))])]) (Dn.bin .mul (Dn.cst (.int 3)) (Dn.cst (.int 341))))]) (Dm.ret (Dn.cst (.bl false))) (Dm.nil)
def ls9 : Sm := Dm.if_ (Dn.or_ [(false, Dn.cmp .ne (Dn.call d__law_told [(false, Dn.var 8), (false, Dn.cst (.int 587))]) (Dn.lst [(false, Dn.cst (.str "many")), (false, Dn.bin .mul (Dn.cst (.int 587)) (Dn.cst (.int 341)))])), (false, Dn.cmp .ne (Dn.idx (Dn.call d__law_told [(false, Dn.var 8), (false, Dn.cst (.int 586))]) (Dn.cst (.int 0))) (Dn.cst (.str "amount")))]) (Dm.ret (Dn.cst (.bl false))) (Dm.nil)
def ls10 : Sm := Dm.if_ (Dn.or_ [(false, Dn.cmp .ne (Dn.call d__law_told [(false, Dn.var 8), (false, Dn.cst (.int 4))]) (Dn.lst [(false, Dn.cst (.str "amount")), (false, Dn.cst (.int 256))])), (false, Dn.cmp .ne (Dn.call d__law_told [(false, Dn.var 8), (false, Dn.cst (.int 5))]) (Dn.lst [(false, Dn.cst (.str "amount")), (false, Dn.cst (.int 0))]))]) (Dm.ret (Dn.cst (.bl false))) (Dm.nil)
def ls11 : Sm := Dm.if_ (Dn.and_ [(false, Dn.cmp .eq (Dn.var 1) (Dn.cst (.int 0))), (false, Dn.not_ (Dn.call d__law_great [(false, Dn.call d__law_tower [(false, Dn.cst (.int 4))])]))]) (Dm.ret (Dn.cst (.bl false))) (Dm.nil)
def lsB : Sm := Dm.cons ls1 (Dm.cons ls2 (Dm.cons ls3 (Dm.cons ls4 (Dm.cons ls5 (Dm.cons ls6 (Dm.cons ls7 (Dm.cons ls8 (Dm.cons ls9 (Dm.cons ls10 ls11)))))))))
section
variable {ns : List Int} {k : Int} {x2 x3 x4 x5 x6 x7 x8 : Option O} {μ μ1 μ2 : Mu}
theorem run2 {n : Nat} {l : List Int} (hn : μ[n]? = some (some (pool l 0))) (hl : l.length = 8) : ∃ m : Nat, m ≤ 1000 ∧ ls2 (lw ns k (some (.dat (.loc n))) x3 x4 x5 x6 x7 x8) μ = .ok (.next (lw ns k (some (.dat (.loc n))) (some (.dat (.int m))) x4 x5 x6 x7 x8)) (μ.set n (some (pool l 1))) := by
  obtain ⟨r, hr, e⟩ := draw_ok (m := 6) hn (by omega) (by omega)
  have hi : ∃ m : Nat, m ≤ 1000 ∧ Mp.index (.lst [.int 1000, .int 7, .int 100, .int 999, .int 0, .int 1]) (.int (r : Nat)) = some (.int m) := by
    have : r = 0 ∨ r = 1 ∨ r = 2 ∨ r = 3 ∨ r = 4 ∨ r = 5 := by omega
    rcases this with rfl | rfl | rfl | rfl | rfl | rfl
    · exact ⟨1000, by omega, rfl⟩
    · exact ⟨7, by omega, rfl⟩
    · exact ⟨100, by omega, rfl⟩
    · exact ⟨999, by omega, rfl⟩
    · exact ⟨0, by omega, rfl⟩
    · exact ⟨1, by omega, rfl⟩
  obtain ⟨m, hm, e2⟩ := hi
  refine ⟨m, hm, sm_asg (d := .int m) (idx_v (qa := .val (.lst [.int 1000, .int 7, .int 100, .int 999, .int 0, .int 1])) (μ1 := μ) rfl (dn_call (ds := [.loc n, .int 6]) (μ1 := μ) rfl e) rfl e2) rfl⟩
theorem run3 {PT PF SA SB : D} {m : Nat} {μ3 μ4 : Mu} (h1 : d__law_endless [.bl true] μ = .ok PT μ1) (h2 : mkS PT m μ1 = .ok SA μ2) (h3 : d__law_endless [.bl false] μ2 = .ok PF μ3) (h4 : mkS PF m μ3 = .ok SB μ4) :
    ls3 (lw ns k x2 (some (.dat (.int m))) x4 x5 x6 x7 x8) μ = .ok (.next (lw ns k x2 (some (.dat (.int m))) (some (.dat SA)) (some (.dat SB)) x6 x7 x8)) μ4 := by
  refine bnd (m := evs _ _) (evs2 (mkS_v (evs2 (dn_call (ds := [.bl true]) (μ1 := μ) rfl h1) rfl) h2) (mkS_v (evs2 (dn_call (ds := [.bl false]) (μ1 := μ2) rfl h3) rfl) h4)) ?_
  rfl
theorem run4 {SA SB : D} {m A : Nat} (ca : content SA = M.ret SA) (ia : isC "Scripts" SA = true) (cb : content SB = M.ret SB) (ib : isC "Scripts" SB = true) (h1 : d_Scripts_amount [SA] μ = .ok (.int A) μ) (h2 : d__law_sum [.int m] μ = .ok (.int A) μ) (h3 : d_Scripts_length [SA] μ = .ok (.int m) μ) (h4 : d_Scripts_amount [SB] μ = .ok (.int 1) μ) :
    ls4 (lw ns k x2 (some (.dat (.int m))) (some (.dat SA)) (some (.dat SB)) x6 x7 x8) μ = .ok (.next (lw ns k x2 (some (.dat (.int m))) (some (.dat SA)) (some (.dat SB)) x6 x7 x8)) μ := by
  refine sm_f (μ1 := μ) (or3_f (μ1 := μ) (μ2 := μ) ?_ ?_ ?_) rfl
  · exact cmpI_t (i := A) (.of (prop_v (z := SA) rfl ca ia h1)) (.of (dn_call (ds := [.int m]) (μ1 := μ) rfl h2)) rfl ne_int
  · exact cmpI_t (i := m) (.of (prop_v (z := SA) rfl ca ia h3)) (.var rfl) rfl ne_int
  · exact cmpI_t (i := 1) (.of (prop_v (z := SB) rfl cb ib h4)) .cst rfl ne_int
theorem rep_v {m : Nat} (hm : m ≤ 1000) : (Dn.bin .mul (Dn.lst [(false, Dn.tup [(false, Dn.cst (.str "row")), (false, Dn.cst (.int 0))])]) (Dn.var 3)).v (lw ns k x2 (some (.dat (.int m))) x4 x5 x6 x7 x8) μ = .ok (.lst (List.replicate m (rowM 0))) μ :=
  bin_v (qa := .val (.lst [rowM 0])) (qb := .val (.int m)) (μ1 := μ) (μ2 := μ) rfl rfl rfl rfl (rep_ok hm)
theorem run5 {SA SB : D} {m : Nat} (hm : m ≤ 1000) (cb : content SB = M.ret SB) (ib : isC "Scripts" SB = true) (jb : isM "Scripts" "number_of" SB = true) (h1 : d_Scripts___getitem__ [SB, .int 0] μ = .ok (.lst (List.replicate m (rowM 0))) μ) (h2 : d_Scripts_number_of [SB, .lst (List.replicate m (rowM 0))] μ = .ok (.int 0) μ) :
    ls5 (lw ns k x2 (some (.dat (.int m))) (some (.dat SA)) (some (.dat SB)) x6 x7 x8) μ = .ok (.next (lw ns k x2 (some (.dat (.int m))) (some (.dat SA)) (some (.dat SB)) x6 x7 x8)) μ := by
  refine sm_f (μ1 := μ) (or2_f (μ1 := μ) ?_ ?_) rfl
  · exact cmp_t (y := .lst (List.replicate m (rowM 0))) (z := .lst (List.replicate m (rowM 0))) (q_val (item_v (x := SB) (k := .int 0) rfl rfl cb ib h1)) (q_val (rep_v hm)) rfl rfl (ne_rep m)
  · exact cmpI_t (i := 0) (.of (meth_v (x := SB) rfl cb jb (evs1 (rep_v hm)) h2)) .cst rfl ne_int
theorem run6b {SA : D} {m n : Nat} {ms : List D} (ca : content SA = M.ret SA) (ia : isC "Scripts" SA = true) (ja : isM "Scripts" "number_of" SA = true) (hl : ms.length = m) (h1 : d_Scripts___getitem__ [SA, .int n] μ = .ok (.lst ms) μ) (h2 : d_Scripts_number_of [SA, .lst ms] μ = .ok (.int n) μ) (h3 : d_Scripts___contains__ [SA, .lst ms] μ = .ok (.bl true) μ) :
    ls6b (lw ns k x2 (some (.dat (.int m))) (some (.dat SA)) x5 (some (.dat (.int n))) x7 x8) μ = .ok (.next (lw ns k x2 (some (.dat (.int m))) (some (.dat SA)) x5 (some (.dat (.int n))) (some (.dat (.lst ms))) x8)) μ := by
  refine sm_cons (sm_asg (d := .lst ms) (item_v (x := SA) (k := .int n) rfl rfl ca ia h1) rfl) (sm_f (μ1 := μ) (or3_f (μ1 := μ) (μ2 := μ) ?_ ?_ ?_) rfl)
  · refine cmpI_t (i := m) (.of ?_) (.var rfl) rfl ne_int
    refine bnd (m := (Dn.var 7).q _) (a := .val (.lst ms)) (μ1 := μ) rfl ?_
    show Res.ok (D.int (ms.length : Nat)) μ = _
    rw [hl]
  · exact cmpI_t (i := n) (.of (meth_v (x := SA) rfl ca ja (evs1 (d := .lst ms) rfl) h2)) (.var rfl) rfl ne_int
  · exact among_f (k := .lst ms) (x := SA) rfl rfl ca ia h3
theorem run6e {SA : D} {n A : Nat} {l : List Int} (ca : content SA = M.ret SA) (ia : isC "Scripts" SA = true) (hA : 1 ≤ A) (h : ∀ μ, d_Scripts_amount [SA] μ = .ok (.int A) μ) (hn : μ[n]? = some (some (pool l 1))) (hl : l.length = 8) :
    ∃ r : Nat, r < A ∧ Di.val ls6e (lw ns k (some (.dat (.loc n))) x3 (some (.dat SA)) x5 x6 x7 x8) μ = .ok [.int (0 : Nat), .int (A - 1 : Nat), .int (r : Nat)] (μ.set n (some (pool l 2))) := by
  obtain ⟨r, hr, e⟩ := draw_ok (m := 420) hn (by omega) (by omega)
  refine ⟨((r + 1) * 10 ^ 9) % A, Nat.mod_lt _ (by omega), ?_⟩
  have ea : ∀ μ, IV (Dn.prop "Scripts" d_Scripts_amount (Dn.var 4)) (lw ns k (some (.dat (.loc n))) x3 (some (.dat SA)) x5 x6 x7 x8) μ A := fun μ => .of (prop_v (z := SA) rfl ca ia (h μ))
  have e1 : IV (Dn.bin .sub (Dn.prop "Scripts" d_Scripts_amount (Dn.var 4)) (Dn.cst (.int 1))) (lw ns k (some (.dat (.loc n))) x3 (some (.dat SA)) x5 x6 x7 x8) μ ((A - 1 : Nat) : Int) := .bin (ea μ) .cst (by rw [sub_ok]; congr 1; congr 1; omega)
  have ed : (Dn.call d__law_draw [(false, Dn.var 2), (false, Dn.cst (.int 420))]).v (lw ns k (some (.dat (.loc n))) x3 (some (.dat SA)) x5 x6 x7 x8) μ = .ok (.int r) (μ.set n (some (pool l 2))) := dn_call (ds := [.loc n, .int 420]) (μ1 := μ) rfl e
  have e2 : (Dn.bin .add (Dn.call d__law_draw [(false, Dn.var 2), (false, Dn.cst (.int 420))]) (Dn.cst (.int 1))).v (lw ns k (some (.dat (.loc n))) x3 (some (.dat SA)) x5 x6 x7 x8) μ = .ok (.int ((r : Int) + 1)) (μ.set n (some (pool l 2))) :=
    bin_v (qa := .val (.int r)) (qb := .val (.int 1)) (q_val ed) rfl rfl rfl add_ok
  have ep : IV (Dn.bin .pow (Dn.cst (.int 10)) (Dn.cst (.int 9))) (lw ns k (some (.dat (.loc n))) x3 (some (.dat SA)) x5 x6 x7 x8) (μ.set n (some (pool l 2))) ((10 : Int) ^ (9 : Int).toNat) := .bin .cst .cst (pow_ok (by decide) (by decide) (by decide))
  have e3 : (Dn.bin .mul (Dn.bin .add (Dn.call d__law_draw [(false, Dn.var 2), (false, Dn.cst (.int 420))]) (Dn.cst (.int 1))) (Dn.bin .pow (Dn.cst (.int 10)) (Dn.cst (.int 9)))).v (lw ns k (some (.dat (.loc n))) x3 (some (.dat SA)) x5 x6 x7 x8) μ = .ok (.int (((r : Int) + 1) * (10 : Int) ^ (9 : Int).toNat)) (μ.set n (some (pool l 2))) :=
    bin_v (qa := .val (.int ((r : Int) + 1))) (q_val e2) ep.q rfl rfl (mulS_ok (.inr (by decide)))
  have e4 : (Dn.bin .mod (Dn.bin .mul (Dn.bin .add (Dn.call d__law_draw [(false, Dn.var 2), (false, Dn.cst (.int 420))]) (Dn.cst (.int 1))) (Dn.bin .pow (Dn.cst (.int 10)) (Dn.cst (.int 9)))) (Dn.prop "Scripts" d_Scripts_amount (Dn.var 4))).v (lw ns k (some (.dat (.loc n))) x3 (some (.dat SA)) x5 x6 x7 x8) μ = .ok (.int (((r + 1) * 10 ^ 9 % A : Nat) : Int)) (μ.set n (some (pool l 2))) := by
    refine bin_v (qa := .val (.int (((r : Int) + 1) * (10 : Int) ^ (9 : Int).toNat))) (q_val e3) (ea _).q rfl rfl ?_
    rw [mod_ok (by omega)]
    congr 2
  have es : evs (lw ns k (some (.dat (.loc n))) x3 (some (.dat SA)) x5 x6 x7 x8) [(false, Dn.cst (.int 0)), (false, Dn.bin .sub (Dn.prop "Scripts" d_Scripts_amount (Dn.var 4)) (Dn.cst (.int 1))), (false, Dn.bin .mod (Dn.bin .mul (Dn.bin .add (Dn.call d__law_draw [(false, Dn.var 2), (false, Dn.cst (.int 420))]) (Dn.cst (.int 1))) (Dn.bin .pow (Dn.cst (.int 10)) (Dn.cst (.int 9)))) (Dn.prop "Scripts" d_Scripts_amount (Dn.var 4)))] μ = .ok [.int (0 : Nat), .int (A - 1 : Nat), .int (((r + 1) * 10 ^ 9 % A : Nat) : Int)] (μ.set n (some (pool l 2))) := by
    refine bnd (m := (Dn.cst _).v _) (a := .int 0) (μ1 := μ) rfl (bnd (m := splice false _) (a := [.int 0]) (μ1 := μ) rfl (bnd (m := evs _ _) (evs2 e1.v e4) rfl))
  refine bnd (m := (Dn.lst _).v _) (bnd (m := evs _ _) es rfl) rfl
theorem run8 {W0 W1 : D} (hw : d__law_tower [.int 1] μ = .ok W1 μ1) (h0 : d_many_states [W0] μ = .ok (.int 341) μ) (h1 : d_many_states [W1] μ1 = .ok (.int 1023) μ1) :
    ls8 (lw ns k x2 x3 x4 x5 x6 x7 (some (.dat W0))) μ = .ok (.next (lw ns k x2 x3 x4 x5 x6 x7 (some (.dat W0)))) μ1 := by
  refine sm_f (μ1 := μ1) (or2_f (μ1 := μ) (μ2 := μ1) ?_ ?_) rfl
  · exact cmpI_t (i := 341) (.of (dn_call (ds := [W0]) (μ1 := μ) rfl h0)) .cst rfl ne_int
  · exact cmp_t (y := .int 1023) (z := .int 1023) (qa := .val (.int 1023)) (qb := .val (.int 1023)) (q_val (dn_call (evs1 (dn_call (ds := [.int 1]) (μ1 := μ) rfl hw)) h1)) rfl rfl rfl ne_int
theorem run9 {W0 : D} {n : Nat} (h0 : d__law_told [W0, .int 587] μ = .ok (.lst [.str "many", .int 200167]) μ1) (h1 : d__law_told [W0, .int 586] μ1 = .ok (.lst [.str "amount", .int (n : Nat)]) μ2) :
    ls9 (lw ns k x2 x3 x4 x5 x6 x7 (some (.dat W0))) μ = .ok (.next (lw ns k x2 x3 x4 x5 x6 x7 (some (.dat W0)))) μ2 := by
  refine sm_f (μ1 := μ2) (or2_f (μ1 := μ1) (μ2 := μ2) ?_ ?_) rfl
  · exact cmp_t (y := .lst [.str "many", .int 200167]) (z := .lst [.str "many", .int 200167]) (qa := .val (.lst [.str "many", .int 200167])) (qb := .val (.lst [.str "many", .int 200167])) (q_val (dn_call (ds := [W0, .int 587]) (μ1 := μ) rfl h0)) rfl rfl rfl (by kernel_rfl)
  · exact cmp_t (y := .str "amount") (z := .str "amount") (qa := .val (.str "amount")) (qb := .val (.str "amount")) (q_val (idx_v (qa := .val (.lst [.str "amount", .int (n : Nat)])) (y := .int 0) (z := .lst [.str "amount", .int (n : Nat)]) (q_val (dn_call (ds := [W0, .int 586]) (μ1 := μ1) rfl h1)) rfl rfl rfl)) rfl rfl rfl (by kernel_rfl)
theorem run10 {W0 : D} (h0 : d__law_told [W0, .int 4] μ = .ok (.lst [.str "amount", .int 256]) μ1) (h1 : d__law_told [W0, .int 5] μ1 = .ok (.lst [.str "amount", .int 0]) μ2) :
    ls10 (lw ns k x2 x3 x4 x5 x6 x7 (some (.dat W0))) μ = .ok (.next (lw ns k x2 x3 x4 x5 x6 x7 (some (.dat W0)))) μ2 := by
  refine sm_f (μ1 := μ2) (or2_f (μ1 := μ1) (μ2 := μ2) ?_ ?_) rfl
  · exact cmp_t (y := .lst [.str "amount", .int 256]) (z := .lst [.str "amount", .int 256]) (qa := .val (.lst [.str "amount", .int 256])) (qb := .val (.lst [.str "amount", .int 256])) (q_val (dn_call (ds := [W0, .int 4]) (μ1 := μ) rfl h0)) rfl rfl rfl (by kernel_rfl)
  · exact cmp_t (y := .lst [.str "amount", .int 0]) (z := .lst [.str "amount", .int 0]) (qa := .val (.lst [.str "amount", .int 0])) (qb := .val (.lst [.str "amount", .int 0])) (q_val (dn_call (ds := [W0, .int 5]) (μ1 := μ1) rfl h1)) rfl rfl rfl (by kernel_rfl)
theorem run11a {W4 : D} (hw : d__law_tower [.int 4] μ = .ok W4 μ1) (h : d__law_great [W4] μ1 = .ok (.bl true) μ1) : ls11 (lw ns 0 x2 x3 x4 x5 x6 x7 x8) μ = .ok (.next (lw ns 0 x2 x3 x4 x5 x6 x7 x8)) μ1 := by
  refine sm_f (μ1 := μ1) ?_ rfl
  refine bnd (m := (Dn.cmp _ _ _).t _) (a := true) (μ1 := μ) rfl ?_
  exact not_t (r := true) (t_bl (dn_call (evs1 (dn_call (ds := [.int 4]) (μ1 := μ) rfl hw)) h))
theorem run11b : ls11 (lw ns 1 x2 x3 x4 x5 x6 x7 x8) μ = .ok (.next (lw ns 1 x2 x3 x4 x5 x6 x7 x8)) μ := sm_f (μ1 := μ) rfl rfl
end
end Kt

/-! k18: the law gives True (own work). -/
namespace Kt
open PySem Mp
theorem ls_turn {ns : List Int} {k : Nat} {μ0 : Mu} {Q : Mu → Prop} {x2 x3 x4 x5 x6 x7 x8 : Option O} (hk10 : k ≤ 10) (hns : k < ns.length ∨ ns = [])
    (hT : ∀ {μ : Mu}, μ.length = μ0.length + 1 → d__law_endless [.bl true] μ = .ok PT (μ ++ [none, none]))
    (hF : ∀ {μ : Mu}, μ.length = μ0.length + 4 → d__law_endless [.bl false] μ = .ok PF (μ ++ [none, none]))
    (h0 : ∀ {μ : Mu}, μ.length = μ0.length + 7 → d__law_tower [.int 0] μ = .ok (PW 0) (μ ++ [none, none]))
    (h1 : ∀ {μ : Mu}, μ.length = μ0.length + 9 → d__law_tower [.int 1] μ = .ok (PW 1) (μ ++ [none, none]))
    (h11 : ∀ {μ : Mu} {x2 x3 x4 x5 x6 x7 x8 : Option O}, μ.length = μ0.length + 15 → ∃ μ', ls11 (lw ns k x2 x3 x4 x5 x6 x7 x8) μ = .ok (.next (lw ns k x2 x3 x4 x5 x6 x7 x8)) μ' ∧ Q μ') :
    ∃ y2 y3 y4 y5 y6 y7 y8 μ', lsB (lw ns k x2 x3 x4 x5 x6 x7 x8) μ0 = .ok (.next (lw ns k y2 y3 y4 y5 y6 y7 y8)) μ' ∧ Q μ' := by
  obtain ⟨l, hl, eo⟩ := opened_ok (μ := μ0) hk10 hns
  have r1 : ls1 (lw ns k x2 x3 x4 x5 x6 x7 x8) μ0 = .ok (.next (lw ns k (some (.dat (.loc μ0.length))) x3 x4 x5 x6 x7 x8)) (μ0 ++ [some (pool l 0)]) := sm_asg (dn_call (ds := [.scr ns, .int k, .int 8]) (μ1 := μ0) rfl eo) rfl
  obtain ⟨m, hm, r2⟩ := run2 (ns := ns) (k := k) (x3 := x3) (x4 := x4) (x5 := x5) (x6 := x6) (x7 := x7) (x8 := x8) (μ := μ0 ++ [some (pool l 0)]) (n := μ0.length) (l := l) (by simp) hl
  have es : (μ0 ++ [some (pool l 0)]).set μ0.length (some (pool l 1)) = μ0 ++ [some (pool l 1)] := by simp
  rw [es] at r2
  have g1 := hT (μ := μ0 ++ [some (pool l 1)]) (by simp)
  obtain ⟨qT, cT, g2⟩ := sysT.made allT (μ := (μ0 ++ [some (pool l 1)]) ++ [none, none]) (m := m) hm (by simp) (by simp; omega)
  have g3 := hF (μ := ((μ0 ++ [some (pool l 1)]) ++ [none, none]) ++ [none]) (by simp)
  obtain ⟨qF, cF, g4⟩ := sysF.made allF (μ := (((μ0 ++ [some (pool l 1)]) ++ [none, none]) ++ [none]) ++ [none, none]) (m := m) hm (by simp) (by simp; omega)
  have r3 := run3 (ns := ns) (k := k) (x2 := some (.dat (.loc μ0.length))) (x4 := x4) (x5 := x5) (x6 := x6) (x7 := x7) (x8 := x8) g1 g2 g3 g4
  generalize hμ3 : ((((μ0 ++ [some (pool l 1)]) ++ [none, none]) ++ [none]) ++ [none, none]) ++ [none] = μ3 at r3
  have l3 : μ3.length = μ0.length + 7 := by rw [← hμ3]; simp
  have p3 : μ3[μ0.length]? = some (some (pool l 1)) := by rw [← hμ3]; simp
  have r4 := run4 (ns := ns) (k := k) (x2 := some (.dat (.loc μ0.length))) (x6 := x6) (x7 := x7) (x8 := x8) (μ := μ3) (SA := SC encE mvE false PT qT m) (SB := SC encF mvF () PF qF m) (m := m) (A := cnt mvE m false) rfl rfl rfl rfl (sysT.amount cT) (law_sum hm) length_ok ((sysF.amount cF).trans (by rw [cntF]; rfl))
  have hF0 : d_Scripts___getitem__ [SC encF mvF () PF qF m, .int 0] μ3 = .ok (.lst (List.replicate m (rowM 0))) μ3 := by
    obtain ⟨ms, hp, e⟩ := sysF.getitem cF (μ := μ3) (n := 0) hm (by rw [cntF]; omega)
    rw [pathF hp] at e
    exact e
  have r5 := run5 (ns := ns) (k := k) (x2 := some (.dat (.loc μ0.length))) (x6 := x6) (x7 := x7) (x8 := x8) (μ := μ3) (SA := SC encE mvE false PT qT m) hm rfl rfl rfl hF0 (sysF.number mvsF cF (pathF_mk m))
  obtain ⟨r, hr, r6e⟩ := run6e (ns := ns) (k := k) (x3 := some (.dat (.int m))) (x5 := some (.dat (SC encF mvF () PF qF m))) (x6 := x6) (x7 := x7) (x8 := x8) (μ := μ3) (n := μ0.length) (SA := SC encE mvE false PT qT m) (A := cnt mvE m false) rfl rfl (cntT_pos m) (fun μ => sysT.amount cT) p3 hl
  have l4 : (μ3.set μ0.length (some (pool l 2))).length = μ0.length + 7 := by rw [List.length_set, l3]
  generalize μ3.set μ0.length (some (pool l 2)) = μ4 at r6e l4
  have one : ∀ {n : Nat} {z7 : Option O}, n < cnt mvE m false → ∃ ms, ls6b (lw ns k (some (.dat (.loc μ0.length))) (some (.dat (.int m))) (some (.dat (SC encE mvE false PT qT m))) (some (.dat (SC encF mvF () PF qF m))) (some (.dat (.int (n : Nat)))) z7 x8) μ4 =
      .ok (.next (lw ns k (some (.dat (.loc μ0.length))) (some (.dat (.int m))) (some (.dat (SC encE mvE false PT qT m))) (some (.dat (SC encF mvF () PF qF m))) (some (.dat (.int (n : Nat)))) (some (.dat (.lst ms))) x8)) μ4 := fun {n z7} hn => by
    obtain ⟨ms, hp, e⟩ := sysT.getitem cT (μ := μ4) hm hn
    exact ⟨ms, run6b rfl rfl rfl hp.len e (sysT.number mvsT cT hp) (sysT.contains mvsT cT hp)⟩
  obtain ⟨m1, a1⟩ := one (n := 0) (z7 := x7) (cntT_pos m)
  obtain ⟨m2, a2⟩ := one (n := cnt mvE m false - 1) (z7 := some (.dat (.lst m1))) (by have := cntT_pos m; omega)
  obtain ⟨m3, a3⟩ := one (n := r) (z7 := some (.dat (.lst m2))) hr
  have r6 : ls6 (lw ns k (some (.dat (.loc μ0.length))) (some (.dat (.int m))) (some (.dat (SC encE mvE false PT qT m))) (some (.dat (SC encF mvF () PF qF m))) x6 x7 x8) μ3 =
      .ok (.next (lw ns k (some (.dat (.loc μ0.length))) (some (.dat (.int m))) (some (.dat (SC encE mvE false PT qT m))) (some (.dat (SC encF mvF () PF qF m))) (some (.dat (.int (r : Nat)))) (some (.dat (.lst m3))) x8)) μ4 :=
    sm_for r6e (for_cons rfl a1 (for_cons rfl a2 (for_cons rfl a3 rfl)))
  have r7 : ls7 (lw ns k (some (.dat (.loc μ0.length))) (some (.dat (.int m))) (some (.dat (SC encE mvE false PT qT m))) (some (.dat (SC encF mvF () PF qF m))) (some (.dat (.int (r : Nat)))) (some (.dat (.lst m3))) x8) μ4 =
      .ok (.next (lw ns k (some (.dat (.loc μ0.length))) (some (.dat (.int m))) (some (.dat (SC encE mvE false PT qT m))) (some (.dat (SC encF mvF () PF qF m))) (some (.dat (.int (r : Nat)))) (some (.dat (.lst m3))) (some (.dat (PW 0))))) (μ4 ++ [none, none]) :=
    sm_asg (dn_call (ds := [.int 0]) (μ1 := μ4) rfl (h0 l4)) rfl
  have l5 : (μ4 ++ [none, none]).length = μ0.length + 9 := by rw [List.length_append, l4]; rfl
  have w1 := h1 l5
  generalize μ4 ++ [none, none] = μ5 at r7 l5 w1
  have l6 : (μ5 ++ [none, none]).length = μ0.length + 11 := by rw [List.length_append, l5]; rfl
  generalize μ5 ++ [none, none] = μ6 at l6 w1
  have r8 := run8 (ns := ns) (k := k) (x2 := some (.dat (.loc μ0.length))) (x3 := some (.dat (.int m))) (x4 := some (.dat (SC encE mvE false PT qT m))) (x5 := some (.dat (SC encF mvF () PF qF m))) (x6 := some (.dat (.int (r : Nat)))) (x7 := some (.dat (.lst m3))) w1 (plain_many μ5) (one_many μ6)
  obtain ⟨o, t1⟩ := told_x (m := 587) (μ := μ6) (by omega) (by omega)
  have t2 := told_m (m := 586) (μ := μ6 ++ [o]) (by omega) (by omega)
  have r9 := run9 (ns := ns) (k := k) (x2 := some (.dat (.loc μ0.length))) (x3 := some (.dat (.int m))) (x4 := some (.dat (SC encE mvE false PT qT m))) (x5 := some (.dat (SC encF mvF () PF qF m))) (x6 := some (.dat (.int (r : Nat)))) (x7 := some (.dat (.lst m3))) t1 t2
  have t3 := told_m (m := 4) (μ := (μ6 ++ [o]) ++ [none]) (by omega) (by omega)
  have t4 := told_m (m := 5) (μ := ((μ6 ++ [o]) ++ [none]) ++ [none]) (by omega) (by omega)
  rw [cnt4] at t3
  rw [cnt5] at t4
  have r10 := run10 (ns := ns) (k := k) (x2 := some (.dat (.loc μ0.length))) (x3 := some (.dat (.int m))) (x4 := some (.dat (SC encE mvE false PT qT m))) (x5 := some (.dat (SC encF mvF () PF qF m))) (x6 := some (.dat (.int (r : Nat)))) (x7 := some (.dat (.lst m3))) t3 t4
  have l7 : ((((μ6 ++ [o]) ++ [none]) ++ [none]) ++ [none]).length = μ0.length + 15 := by simp [l6]
  obtain ⟨μ', r11, hQ⟩ := h11 (x2 := some (.dat (.loc μ0.length))) (x3 := some (.dat (.int m))) (x4 := some (.dat (SC encE mvE false PT qT m))) (x5 := some (.dat (SC encF mvF () PF qF m))) (x6 := some (.dat (.int (r : Nat)))) (x7 := some (.dat (.lst m3))) (x8 := some (.dat (PW 0))) l7
  exact ⟨_, _, _, _, _, _, _, μ', sm_cons r1 (sm_cons r2 (sm_cons r3 (sm_cons r4 (sm_cons r5 (sm_cons r6 (sm_cons r7 (sm_cons r8 (sm_cons r9 (sm_cons r10 r11))))))))), hQ⟩
theorem turn0 {ns : List Int} {x2 x3 x4 x5 x6 x7 x8 : Option O} (hns : 0 < ns.length ∨ ns = []) : ∃ y2 y3 y4 y5 y6 y7 y8 μ', lsB (lw ns 0 x2 x3 x4 x5 x6 x7 x8) [] = .ok (.next (lw ns 0 y2 y3 y4 y5 y6 y7 y8)) μ' ∧ μ'.length = 17 :=
  ls_turn (k := 0) (μ0 := []) (Q := fun μ => μ.length = 17) (by omega) hns (fun h => mkT0 (by simpa using h)) (fun h => mkF0 (by simpa using h)) (fun h => mkW0_0 (by simpa using h)) (fun h => mkW1_0 (by simpa using h))
    fun {μ _ _ _ _ _ _ _} h => ⟨μ ++ [none, none], run11a (mkW4_0 (by simpa using h)) (great4 _), by rw [List.length_append]; simp at h; simp [h]⟩
theorem turn1 {ns : List Int} {μ0 : Mu} {x2 x3 x4 x5 x6 x7 x8 : Option O} (hns : 1 < ns.length) (hμ : μ0.length = 17) : ∃ y2 y3 y4 y5 y6 y7 y8 μ', lsB (lw ns 1 x2 x3 x4 x5 x6 x7 x8) μ0 = .ok (.next (lw ns 1 y2 y3 y4 y5 y6 y7 y8)) μ' ∧ True :=
  ls_turn (k := 1) (μ0 := μ0) (Q := fun μ => True) (by omega) (.inl hns) (fun h => mkT1 (by omega)) (fun h => mkF1 (by omega)) (fun h => mkW0_1 (by omega)) (fun h => mkW1_1 (by omega))
    fun {μ _ _ _ _ _ _ _} h => ⟨μ, run11b, trivial⟩
def lawIt : Rho → M (List D) := Di.range1 (Dn.bi2 .max (Dn.cst (.int 1)) (Dn.bi2 .min (Dn.bi1 .len (Dn.var 0)) (Dn.cst (.int 2))))
theorem law_it {ns : List Int} {n : Nat} (hn : n ≤ 2) (h : (n = 1 ∧ ns.length ≤ 1) ∨ (n = 2 ∧ 2 ≤ ns.length)) : lawIt (Mp.start 9 [.scr ns]) [] = .ok (rangeL 0 1 n) [] := by
  have e : (Dn.bi2 .max (Dn.cst (.int 1)) (Dn.bi2 .min (Dn.bi1 .len (Dn.var 0)) (Dn.cst (.int 2)))).v (Mp.start 9 [.scr ns]) [] = .ok (.int n) [] := by
    have z : (Dn.bi2 .max (Dn.cst (.int 1)) (Dn.bi2 .min (Dn.bi1 .len (Dn.var 0)) (Dn.cst (.int 2)))).v (Mp.start 9 [.scr ns]) [] = .ok (.int (if (if (2 : Int) < ns.length then (2 : Int) else ns.length) > 1 then (if (2 : Int) < ns.length then (2 : Int) else ns.length) else 1)) [] := rfl
    rw [z]
    congr 2
    rcases h with ⟨rfl, h⟩ | ⟨rfl, h⟩
    · rw [if_neg (by omega : ¬ (2 : Int) < ns.length), if_neg (by omega)]
      rfl
    · by_cases c : (2 : Int) < ns.length
      · rw [if_pos c, if_pos (by omega)]
        rfl
      · rw [if_neg c, if_pos (by omega)]
        omega
  refine bnd (m := (Dn.bi2 _ _ _).v _) e ?_
  rw [range1_ok (by omega)]
  rfl
theorem b_law_eq : b_law = Dm.cons (Dm.for_ (.name 1) lawIt lsB) (Dm.ret (Dn.cst (.bl true))) := rfl
theorem law_gives (ns : List Int) : ∃ μ, d_law [.scr ns] [] = .ok (.bl true) μ := by
  have hd : ∀ {μ : Mu}, b_law (Mp.start 9 [.scr ns]) [] = .ok (.ret (.bl true)) μ → d_law [.scr ns] [] = .ok (.bl true) μ := fun h => fn_ret rfl h
  by_cases h : ns.length ≤ 1
  · obtain ⟨y2, y3, y4, y5, y6, y7, y8, μ', e, _⟩ := turn0 (ns := ns) (x2 := none) (x3 := none) (x4 := none) (x5 := none) (x6 := none) (x7 := none) (x8 := none) (by
      cases ns with
      | nil => exact .inr rfl
      | cons a b => exact .inl (by simp))
    refine ⟨μ', hd ?_⟩
    rw [b_law_eq]
    refine sm_cons (ρ1 := lw ns 0 y2 y3 y4 y5 y6 y7 y8) (μ1 := μ') (sm_for (law_it (n := 1) (by omega) (.inl ⟨rfl, h⟩)) ?_) (sm_ret rfl)
    exact for_cons (ρ1 := lw ns 0 none none none none none none none) rfl e rfl
  · obtain ⟨y2, y3, y4, y5, y6, y7, y8, μ', e, hl⟩ := turn0 (ns := ns) (x2 := none) (x3 := none) (x4 := none) (x5 := none) (x6 := none) (x7 := none) (x8 := none) (.inl (by omega))
    obtain ⟨z2, z3, z4, z5, z6, z7, z8, μ2, e2, _⟩ := turn1 (ns := ns) (μ0 := μ') (x2 := y2) (x3 := y3) (x4 := y4) (x5 := y5) (x6 := y6) (x7 := y7) (x8 := y8) (by omega) hl
    refine ⟨μ2, hd ?_⟩
    rw [b_law_eq]
    refine sm_cons (ρ1 := lw ns 1 z2 z3 z4 z5 z6 z7 z8) (μ1 := μ2) (sm_for (law_it (n := 2) (by omega) (.inr ⟨rfl, by omega⟩)) ?_) (sm_ret rfl)
    exact for_cons (ρ1 := lw ns 0 none none none none none none none) rfl e (for_cons (ρ1 := lw ns 1 y2 y3 y4 y5 y6 y7 y8) rfl e2 rfl)
end Kt

/-! k18: the law holds, if d_law gives True (own work). -/
open PySem PySem.W PySem.Calls PyProof.Rows
theorem Kt.holds_of (L : Kt.LawGives) : PySem.Challenge.rw_maskedlevels_k18_whole_counts_of_great_p.Holds := by
  w_on; o_law
  refine HandSHeadRun.head_any (r := OpenLaw.row PySem.Challenge.rw_maskedlevels_k18_whole_counts_of_great_p) (q := view (OpenLaw.row PySem.Challenge.rw_maskedlevels_k18_whole_counts_of_great_p).prog [Kt.lawI]) (H := Kt.hk) (ob := Kt.ob) (M := 20000) (loose := Kt.loose) (d := HandSHeadRun.topDef (OpenLaw.row PySem.Challenge.rw_maskedlevels_k18_whole_counts_of_great_p).prog Kt.lawI) (kwd := []) Kt.ob_eq
    (by kernel_rfl) (fun s => by kernel_rfl) Kt.run (by kernel_rfl) (by kernel_rfl) (by kernel_rfl) (by rfl) (by first | assumption | decide +kernel) (by decide +kernel) ⟨rfl, rfl, rfl, rfl, rfl, by decide +kernel⟩ ?hw ?hc
  case hw => w_witness2
  case hc =>
    refine LamX.walk_ofTsE (l := PySem.Challenge.rw_maskedlevels_k18_whole_counts_of_great_p) (n := 63) (k := 11) (x := "_law_script") (CX := fun w => L2.CX PySem.Challenge.rw_maskedlevels_k18_whole_counts_of_great_p.prog w) rfl (by decide) (by kernel_rfl) ⟨rfl, by decide, by decide⟩ ?F ?X
    case X =>
      intro w H s e s' ⟨a, B, H', cls, d, _, _, _, _, _, _, _, h⟩
      exact h
    case F =>
      intro w mg fa h Y G hmg0
      obtain ⟨K, KX, c⟩ := Y
      have hmg : mg ("law" : PySem.Str) = some (.ref fa) := by
        have e : (HandSHeadRun.topDef (OpenLaw.row PySem.Challenge.rw_maskedlevels_k18_whole_counts_of_great_p).prog Kt.lawI).name = ("law" : PySem.Str) := by kernel_rfl
        rw [← e]
        exact hmg0
      exact ⟨K, KX, Kt.law_at L KX G c hmg⟩

theorem PySem.Challenge.cw_maskedlevels_k18_whole_counts_of_great_p_holds : PySem.Challenge.rw_maskedlevels_k18_whole_counts_of_great_p.Holds := by
  exact Kt.holds_of fun ns _ => Kt.law_gives ns
