import PyProof.Rows.All
import HandS.ForMost
import HandS.Exc
import HandS.ExcInit
import HandS.Walk
import HandS.Wide
import HandS.Gcd
import HandS.IsInst
import HandS.Conv
import HandS.Zip
import HandS.Flow
import HandS.Style
import HandS.TupAny
import HandS.Evl
import KE.SortData
import PyProof.ReprRoads
import HandS.Defaults
import KE.KStateDown
import HandS.Ends
import HandS.Head0
import HandS.Head1
import HandS.Head2
import HandS.Head3
import HandS.HeadEnd
import HandS.HeadHook1
import HandS.HeadHook2
import PySem.Challenge.RW_slantpanes_k03_far_cells_on_stripes
set_option Elab.async false
set_option linter.all false
/-! Mini: a small language of plain data, evaluated by a Lean function; its programs are matched with the written text. -/
namespace Mini
open PySem L2

abbrev D := PyData
/-- what a run comes to -/
inductive Out (α : Type) where
  | ok (a : α)
  | bad
namespace Out
def bind {α β : Type} : Out α → (α → Out β) → Out β
  | .ok a, f => f a
  | .bad, _ => .bad
instance : Monad Out where
  pure := .ok
  bind := bind
/-- it comes to something of which P is true -/
def sat {α : Type} : Out α → (α → Prop) → Prop
  | .ok a, P => P a
  | .bad, _ => False
@[simp] theorem ok_bind {α β : Type} (a : α) (f : α → Out β) : (Out.ok a >>= f) = f a := rfl
@[simp] theorem bad_bind {α β : Type} (f : α → Out β) : ((Out.bad : Out α) >>= f) = .bad := rfl
@[simp] theorem pure_eq {α : Type} (a : α) : (pure a : Out α) = .ok a := rfl
theorem sat_bind {α β : Type} (m : Out α) (f : α → Out β) (P : β → Prop) : (m >>= f).sat P ↔ m.sat (fun a => (f a).sat P) := by
  cases m <;> exact Iff.rfl
theorem sat_mono {α : Type} {m : Out α} {P Q : α → Prop} (h : m.sat P) (k : ∀ a, m = .ok a → P a → Q a) : m.sat Q := by
  cases m with
  | ok a => exact k a rfl h
  | bad => exact h
def guard (b : Bool) {α : Type} (m : Out α) : Out α := if b = true then m else .bad
end Out

/-- a name's place: nothing yet, or a value; the number tells how deep it is the place's own (0: shared, never changed) -/
abbrev Slot := Option (Nat × D)
abbrev Rho := List Slot

inductive Tgt where
  | nm (i : Nat) | tup (ts : Tgt) | nil | cons (t ts : Tgt)
inductive Op1 where
  | neg | not
  deriving DecidableEq
inductive Op2 where
  | add | sub | mul | fdv | mod | pow | eq | ne | lt | le | gt | ge | isn | isnn | inn | nin
  deriving DecidableEq
inductive Blt where
  | len | tupl | list | all | any | int | sum | sort | abs | max2 | min2 | gcd | repr
  | isi (ts : List String)
  deriving DecidableEq
inductive ME where
  | var (i : Nat) | bor (n i : Nat) | frz (i : Nat) | mov (n i : Nat) | iou (n i : Nat)
  | cst (d : D) | glb (x : Str) (n : Int) | flat (e : ME)
  | op1 (o : Op1) (a : ME) | op2 (o : Op2) (a b : ME) | chn (o o' : Op2) (a b c : ME)
  | and (a b : ME) | or (a b : ME) | ife (c a b : ME)
  | tup (es : ME) | lst (es : ME) | nil | cons (e es : ME)
  | sub (a i : ME) | key (a : ME) (k : Str) | slc (a lo hi : ME) | nop | rev (a : ME)
  | blt (b : Blt) (es : ME)
  | call (f r : Nat) (io : List (Option (Nat × Nat))) (es ks : ME) (kw : List Nat)
  | comp (own : List (Str × Nat)) (t : Tgt) (it c e : ME)
  | val (a : ME) | rng1 (a : ME) | rng2 (a b : ME) | zip (a b : ME) | enm (a : ME)
  | pop (n i : Nat) (k : Option Str)
  | dsp (ks : List Str) (es : ME)

/-! ### operations on data -/
/-- a fair size for a list -/
def LIM : Nat := 1000000
def truth : D → Out Bool
  | .none => .ok false
  | .bool b => .ok b
  | .int i => .ok (i != 0)
  | .list l => .ok (!l.isEmpty)
  | .tuple l => .ok (!l.isEmpty)
  | _ => .bad
/-- None, bools, ints, texts -/
def isFlat : D → Bool
  | .none => true
  | .bool _ => true
  | .int _ => true
  | .str _ => true
  | _ => false
def mulOk (i j : Int) : Bool := decide (i.natAbs.log2 + j.natAbs.log2 < 1000000)
def ev1 : Op1 → D → Out D
  | .neg, .int i => .ok (.int (-i))
  | .not, d => do
    let b ← truth d
    .ok (.bool (!b))
  | _, _ => .bad
def inD (x : D) (l : List D) : Bool := l.any fun y => PyData.eqv y x
def ev2 : Op2 → D → D → Out D
  | .add, .int i, .int j => .ok (.int (i + j))
  | .add, .list a, .list b => if a.length + b.length ≤ LIM then .ok (.list (a ++ b)) else .bad
  | .add, .tuple a, .tuple b => if a.length + b.length ≤ LIM then .ok (.tuple (a ++ b)) else .bad
  | .sub, .int i, .int j => .ok (.int (i - j))
  | .mul, .int i, .int j => if mulOk i j = true then .ok (.int (i * j)) else .bad
  | .fdv, .int i, .int j => if 0 < j ∧ j.natAbs.log2 < 9000 then .ok (.int (i / j)) else .bad
  | .mod, .int i, .int j => if 0 < j then .ok (.int (i % j)) else .bad
  | .pow, .int i, .int j => if 0 ≤ j ∧ j ≤ 1000000 ∧ i.natAbs < 2 ^ 64 then .ok (.int (i ^ j.toNat)) else .bad
  | .lt, .int i, .int j => .ok (.bool (decide (i < j)))
  | .le, .int i, .int j => .ok (.bool (decide (i ≤ j)))
  | .gt, .int i, .int j => .ok (.bool (decide (j < i)))
  | .ge, .int i, .int j => .ok (.bool (decide (j ≤ i)))
  | .eq, a, b => if SeqAt.shaped a = true ∧ SeqAt.shaped b = true then .ok (.bool (PyData.eqv a b)) else .bad
  | .ne, a, b => if SeqAt.shaped a = true ∧ SeqAt.shaped b = true then .ok (.bool (!PyData.eqv a b)) else .bad
  | .isn, a, .none => .ok (.bool (match a with | .none => true | _ => false))
  | .isnn, a, .none => .ok (.bool (match a with | .none => false | _ => true))
  | .inn, x, .list l => if isFlat x = true ∧ l.all isFlat = true then .ok (.bool (inD x l)) else .bad
  | .inn, x, .tuple l => if isFlat x = true ∧ l.all isFlat = true then .ok (.bool (inD x l)) else .bad
  | .nin, x, .list l => if isFlat x = true ∧ l.all isFlat = true then .ok (.bool (!inD x l)) else .bad
  | .nin, x, .tuple l => if isFlat x = true ∧ l.all isFlat = true then .ok (.bool (!inD x l)) else .bad
  | _, _, _ => .bad
def evSub : D → D → Out D
  | .list l, .int i => match atI l i with | some d => .ok d | none => .bad
  | .tuple l, .int i => match atI l i with | some d => .ok d | none => .bad
  | _, _ => .bad
def isKey (k : Str) : D → Bool
  | .str s => decide (s = k)
  | _ => false
def getD (k : Str) : List (D × D) → Option D
  | [] => none
  | kv :: r => if isKey k kv.1 = true then some kv.2 else getD k r
/-- the first pair of the key k is given another value -/
def putD : List (D × D) → Str → D → List (D × D)
  | [], _, _ => []
  | kv :: r, k, x => if isKey k kv.1 = true then (kv.1, x) :: r else kv :: putD r k x
def evKey : D → Str → Out D
  | .dict l, k => match getD k l with | some d => .ok d | none => .bad
  | _, _ => .bad
def cutD (l : List D) (lo hi : Option Int) : List D := (l.drop (HT.sIx l.length 0 lo)).take (HT.sIx l.length l.length hi - HT.sIx l.length 0 lo)
def evSlc : D → Option Int → Option Int → Out D
  | .list l, lo, hi => .ok (.list (cutD l lo hi))
  | .tuple l, lo, hi => .ok (.tuple (cutD l lo hi))
  | _, _, _ => .bad
def intsOf : List D → Option (List Int)
  | [] => some []
  | .int i :: r => (intsOf r).map (i :: ·)
  | _ :: _ => none
def boolsOf : List D → Option (List Bool)
  | [] => some []
  | .bool i :: r => (boolsOf r).map (i :: ·)
  | _ :: _ => none
def pyTy : D → String
  | .none => "NoneType"
  | .bool _ => "bool"
  | .int _ => "int"
  | .str _ => "str"
  | .list _ => "list"
  | .tuple _ => "tuple"
  | .dict _ => "dict"
/-- isinstance against built-in types -/
def isT (a t : String) : Bool := a == t || (t == "int" && a == "bool")
def isiD (d : D) (ts : List String) : Bool := ts.any fun t => isT (pyTy d) t
def allAlike (l : List D) : Bool := l.all fun a => l.all fun b => PySem.W.alike a b
def sortable (l : List D) : Bool :=
  (l.all fun d => match d with | .tuple (_ :: _) => true | _ => false) || (l.all fun d => match d with | .tuple _ => false | .none => false | _ => true)
/-- all items nested at most four deep -/
def shallow (l : List D) : Bool := l.all fun d => decide (d.depth ≤ 4)
def evSort : D → Out D
  | .list l => if allAlike l = true ∧ sortable l = true ∧ shallow l = true then .ok (.list (l.mergeSort (PySem.W.dataLe false id))) else .bad
  | _ => .bad

/-- repr, of data whose text is told by their own -/
def evRepr (d : D) : Out D := if d.showable = true ∧ d.hasDict = false ∧ d.depth ≤ 40 ∧ d.shown.length ≤ LIM then .ok (.str d.shown) else .bad
def evBlt : Blt → List D → Out D
  | .len, [.list l] => .ok (.int l.length)
  | .len, [.tuple l] => .ok (.int l.length)
  | .tupl, [.list l] => .ok (.tuple l)
  | .tupl, [.tuple l] => .ok (.tuple l)
  | .list, [.list l] => .ok (.list l)
  | .list, [.tuple l] => .ok (.list l)
  | .all, [.list l] => match boolsOf l with | some bs => .ok (.bool (bs.all id)) | none => .bad
  | .any, [.list l] => match boolsOf l with | some bs => .ok (.bool (bs.any id)) | none => .bad
  | .int, [.int i] => .ok (.int i)
  | .int, [.bool b] => .ok (.int (if b then 1 else 0))
  | .sum, [.list l] => match intsOf l with | some ns => .ok (.int ns.sum) | none => .bad
  | .sort, [d] => evSort d
  | .abs, [.int i] => .ok (.int (if i < 0 then -i else i))
  | .max2, [.int i, .int j] => .ok (.int (if j > i then j else i))
  | .min2, [.int i, .int j] => .ok (.int (if j < i then j else i))
  | .gcd, [.int i, .int j] => .ok (.int ((Nat.gcd i.natAbs j.natAbs : Nat) : Int))
  | .repr, [d] => evRepr d
  | .isi ts, [d] => match d with
    | .dict _ => .bad
    | d => .ok (.bool (isiD d ts))
  | _, _ => .bad

/-- no dict within -/
def noDict : Nat → D → Bool
  | _, .dict _ => false
  | n + 1, .list l => l.all (noDict n)
  | _, _ => true

/-! ### places -/
def getS (ρ : Rho) (i : Nat) : Slot := (ρ[i]?).getD none
/-- what the place i holds, owned as deep as n -/
def ownD (ρ : Rho) (n i : Nat) : Out D := match getS ρ i with
  | some (m, d) => if m = n then .ok d else .bad
  | none => .bad
def asgT : Tgt → D → Rho → Out Rho
  | .nm i, d, ρ => .ok (ρ.set i (some (0, d)))
  | .tup ts, .tuple l, ρ => asgT ts (.list l) ρ
  | .nil, .list [], ρ => .ok ρ
  | .cons t ts, .list (d :: r), ρ => do asgT ts (.list r) (← asgT t d ρ)
  | _, _, _ => .bad
def wipeR (ρ : Rho) : List Nat → Rho
  | [] => ρ
  | v :: vs => (wipeR ρ vs).set v none
/-- a place may be wiped: it is no owner -/
def noOwn (ρ : Rho) (vs : List Nat) : Bool := vs.all fun v => match getS ρ v with | some (_ + 1, _) => false | _ => true
/-- the items one after another; what is made of them -/
def compL (f : D → Rho → Out (Option D × Rho)) : List D → Rho → Out (List D × Rho)
  | [], ρ => .ok ([], ρ)
  | d :: r, ρ => do
    let (o, ρ1) ← f d ρ
    let (l, ρ2) ← compL f r ρ1
    match o with
    | some x => .ok (x :: l, ρ2)
    | none => .ok (l, ρ2)
def asInt : D → Option (Option Int)
  | .none => some none
  | .int i => some (some i)
  | _ => none
/-- the arguments that are handed on as places: as they stand at the call -/
def refresh (ρ : Rho) : List (Option (Nat × Nat)) → List D → Out (List D)
  | [], [] => .ok []
  | none :: io, d :: r => do .ok (d :: (← refresh ρ io r))
  | some (n, i) :: io, _ :: r => do
    let d ← ownD ρ n i
    .ok (d :: (← refresh ρ io r))
  | _, _ => .bad
def putBack (ρ : Rho) : List (Option (Nat × Nat)) → List D → Out Rho
  | [], [] => .ok ρ
  | none :: io, os => putBack ρ io os
  | some (n, i) :: io, o :: os => putBack (ρ.set i (some (n, o))) io os
  | _, _ => .bad
def permL {α : Type} (l : List α) (ix : List Nat) : List α := ix.filterMap fun i => l[i]?
def popPath : Option Str → D → Out (D × D)
  | none, .list l => match l.getLast? with | some x => .ok (x, .list l.dropLast) | none => .bad
  | some k, .dict kvs => match evKey (.dict kvs) k with
    | .ok (.list l) => match l.getLast? with
      | some x => .ok (x, .dict (putD kvs k (.list l.dropLast)))
      | none => .bad
    | _ => .bad
  | _, _ => .bad
def rangeD (a b : Int) : List D := (List.range (b - a).toNat).map fun i => .int (a + (i : Nat))
def rngOk (a b : Int) : Bool := decide (-(2 ^ 62) ≤ a ∧ a < 2 ^ 62 ∧ -(2 ^ 62) ≤ b ∧ b < 2 ^ 62)
def enumD : Nat → List D → List D
  | _, [] => []
  | i, d :: r => .tuple [.int (i : Nat), d] :: enumD (i + 1) r

def iterOf : D → Option (List D)
  | .list l => some l
  | .tuple l => some l
  | _ => none

/-- the defs: what they come to at the arguments, and what their places hold behind -/
abbrev Defs := Nat → List D → Out (D × List D)

/-- an item of a dict display that must be flat -/
def isFlatM : ME → Bool
  | .cst _ => true
  | .flat _ => true
  | _ => false
def dspOk : ME → List D → Bool
  | .cons m es, d :: ds => (!isFlatM m || isFlat d) && dspOk es ds
  | _, _ => true
/-! ### expressions -/
def ev (G : Defs) : ME → Rho → Out (D × Rho)
  | .var i, ρ => do
    let d ← ownD ρ 0 i
    .ok (d, ρ)
  | .bor n i, ρ => do
    let d ← ownD ρ n i
    .ok (d, ρ)
  | .frz i, ρ => match getS ρ i with
    | some (n, d) => if noDict n d = true then .ok (d, ρ.set i (some (0, d))) else .bad
    | none => .bad
  | .mov n i, ρ => do
    let d ← ownD ρ n i
    .ok (d, ρ.set i none)
  | .iou n i, ρ => do
    let d ← ownD ρ n i
    .ok (d, ρ)
  | .cst d, ρ => .ok (d, ρ)
  | .glb _ n, ρ => .ok (.int n, ρ)
  | .flat e, ρ => do
    let (d, ρ1) ← ev G e ρ
    if isFlat d = true then .ok (d, ρ1) else .bad
  | .op1 o a, ρ => do
    let (d, ρ1) ← ev G a ρ
    let x ← ev1 o d
    .ok (x, ρ1)
  | .op2 o a b, ρ => do
    let (x, ρ1) ← ev G a ρ
    let (y, ρ2) ← ev G b ρ1
    let z ← ev2 o x y
    .ok (z, ρ2)
  | .chn o o' a b c, ρ => do
    let (x, ρ1) ← ev G a ρ
    let (y, ρ2) ← ev G b ρ1
    let z ← ev2 o x y
    match z with
    | .bool true => do
      let (w, ρ3) ← ev G c ρ2
      let u ← ev2 o' y w
      .ok (u, ρ3)
    | .bool false => .ok (.bool false, ρ2)
    | _ => .bad
  | .and a b, ρ => do
    let (x, ρ1) ← ev G a ρ
    let t ← truth x
    if t = true then ev G b ρ1 else .ok (x, ρ1)
  | .or a b, ρ => do
    let (x, ρ1) ← ev G a ρ
    let t ← truth x
    if t = true then .ok (x, ρ1) else ev G b ρ1
  | .ife c a b, ρ => do
    let (x, ρ1) ← ev G c ρ
    let t ← truth x
    if t = true then ev G a ρ1 else ev G b ρ1
  | .tup es, ρ => do
    let (l, ρ1) ← ev G es ρ
    match l with
    | .list ds => .ok (.tuple ds, ρ1)
    | _ => .bad
  | .lst es, ρ => ev G es ρ
  | .nil, ρ => .ok (.list [], ρ)
  | .cons e es, ρ => do
    let (d, ρ1) ← ev G e ρ
    let (l, ρ2) ← ev G es ρ1
    match l with
    | .list ds => .ok (.list (d :: ds), ρ2)
    | _ => .bad
  | .sub a i, ρ => do
    let (x, ρ1) ← ev G a ρ
    let (y, ρ2) ← ev G i ρ1
    let z ← evSub x y
    .ok (z, ρ2)
  | .key a k, ρ => do
    let (x, ρ1) ← ev G a ρ
    let z ← evKey x k
    .ok (z, ρ1)
  | .slc a lo hi, ρ => do
    let (x, ρ1) ← ev G a ρ
    let (l, ρ2) ← ev G lo ρ1
    let (h, ρ3) ← ev G hi ρ2
    match asInt l, asInt h with
    | some l, some h => do
      let z ← evSlc x l h
      .ok (z, ρ3)
    | _, _ => .bad
  | .nop, ρ => .ok (.none, ρ)
  | .rev a, ρ => do
    let (x, ρ1) ← ev G a ρ
    match x with
    | .list l => .ok (.list l.reverse, ρ1)
    | _ => .bad
  | .blt b es, ρ => do
    let (l, ρ1) ← ev G es ρ
    match l with
    | .list ds => do
      let z ← evBlt b ds
      .ok (z, ρ1)
    | _ => .bad
  | .call f _ io es ks kw, ρ => do
    let (l, ρ1) ← ev G es ρ
    let (m, ρ2) ← ev G ks ρ1
    match l, m with
    | .list ds, .list cs => do
      let zs ← refresh ρ2 io (permL (ds ++ cs) kw)
      let (d, os) ← G f zs
      let ρ3 ← putBack ρ2 io os
      .ok (d, ρ3)
    | _, _ => .bad
  | .comp own t it c e, ρ => do
    let (l, ρ1) ← ev G it ρ
    let ds ← (match iterOf l with | some ds => if noOwn ρ1 (own.map (·.2)) = true ∧ ds.length ≤ LIM then .ok ds else .bad | none => .bad)
    let (xs, ρ2) ← compL (fun d ρ => do
      let ρa ← asgT t d ρ
      let (b, ρb) ← ev G c ρa
      let t ← truth b
      if t = true then do
        let (x, ρc) ← ev G e ρb
        .ok (some x, wipeR ρc (own.map (·.2)))
      else .ok (none, wipeR ρb (own.map (·.2)))) ds (wipeR ρ1 (own.map (·.2)))
    .ok (.list xs, ρ2)
  | .val a, ρ => ev G a ρ
  | .rng1 a, ρ => do
    let (x, ρ1) ← ev G a ρ
    match x with
    | .int n => if rngOk 0 n = true then .ok (.list (rangeD 0 n), ρ1) else .bad
    | _ => .bad
  | .rng2 a b, ρ => do
    let (x, ρ1) ← ev G a ρ
    let (y, ρ2) ← ev G b ρ1
    match x, y with
    | .int m, .int n => if rngOk m n = true then .ok (.list (rangeD m n), ρ2) else .bad
    | _, _ => .bad
  | .zip a b, ρ => do
    let (x, ρ1) ← ev G a ρ
    let (y, ρ2) ← ev G b ρ1
    match x, y with
    | .list l, .list m => .ok (.list ((l.zip m).map fun p => .tuple [p.1, p.2]), ρ2)
    | .tuple l, .tuple m => .ok (.list ((l.zip m).map fun p => .tuple [p.1, p.2]), ρ2)
    | _, _ => .bad
  | .enm a, ρ => do
    let (x, ρ1) ← ev G a ρ
    match x with
    | .list l => .ok (.list (enumD 0 l), ρ1)
    | _ => .bad
  | .pop n i k, ρ => do
    let d ← ownD ρ n i
    let (x, d1) ← popPath k d
    let y ← (if isFlat x = true then .ok x else .bad)
    .ok (y, ρ.set i (some (n, d1)))
  | .dsp ks es, ρ => do
    let (l, ρ1) ← ev G es ρ
    match l with
    | .list ds => if dspOk es ds = true then .ok (.dict ((ks.map PyData.str).zip ds), ρ1) else .bad
    | _ => .bad

/-! ### statements -/
inductive MS where
  | skp | seq (a b : MS) | asg (t : Tgt) (e : ME) | fre (n i : Nat) (e : ME)
  | par (ts : List (Nat × Nat)) (es : ME)
  | aug (i : Nat) (o : Op2) (e : ME) | exp (e : ME)
  | ret (e : ME) | rtn | ifs (c : ME) (a b : MS) | whl (c : ME) (b : MS) | lop (t : Tgt) (it : ME) (b : MS) | brk | cnt
  | app (n i : Nat) (k : Option Str) (e : ME)
  | set (n i : Nat) (ix e : ME)
  | setK (n i : Nat) (k : Str) (e : ME)
  | nvr
/-- how a statement ends -/
inductive Fl where
  | nx | rt (d : D) | bk | ct
def parSet (ρ : Rho) : List (Nat × Nat) → List D → Out Rho
  | [], [] => .ok ρ
  | (n, i) :: ts, d :: ds => parSet (ρ.set i (some (n, d))) ts ds
  | _, _ => .bad
def appPath : Option Str → D → D → Out D
  | none, .list l, x => if l.length < LIM then .ok (.list (l ++ [x])) else .bad
  | some k, .dict kvs, x => match evKey (.dict kvs) k with
    | .ok (.list l) => if l.length < LIM then .ok (.dict (putD kvs k (.list (l ++ [x])))) else .bad
    | _ => .bad
  | _, _, _ => .bad
/-- there is a list -/
def canApp : Option Str → D → Out Unit
  | none, .list _ => .ok ()
  | some k, .dict kvs => match getD k kvs with
    | some (.list _) => .ok ()
    | _ => .bad
  | _, _ => .bad
def setIx : D → D → D → Out D
  | .list l, .int i, x => match ixN l.length i with | some j => .ok (.list (l.set j x)) | none => .bad
  | _, _, _ => .bad
def setKey : D → Str → D → Out D
  | .dict kvs, k, x => match evKey (.dict kvs) k with
    | .ok y => if isFlat y = true ∧ kvs.length < LIM then .ok (.dict (putD kvs k x)) else .bad
    | .bad => .bad
  | _, _, _ => .bad
def evAug : Op2 → D → D → Out D
  | .add, .int i, .int j => .ok (.int (i + j))
  | .sub, .int i, .int j => .ok (.int (i - j))
  | _, _, _ => .bad
def loopL (f : D → Rho → Out (Fl × Rho)) : List D → Rho → Out (Fl × Rho)
  | [], ρ => .ok (.nx, ρ)
  | d :: r, ρ => do
    let (o, ρ1) ← f d ρ
    match o with
    | .nx => loopL f r ρ1
    | .ct => loopL f r ρ1
    | .bk => .ok (.nx, ρ1)
    | .rt x => .ok (.rt x, ρ1)
def whlN (c : Rho → Out (D × Rho)) (b : Rho → Out (Fl × Rho)) : Nat → Rho → Out (Fl × Rho)
  | 0, _ => .bad
  | n + 1, ρ => do
    let (x, ρ1) ← c ρ
    let t ← truth x
    if t = true then do
      let (o, ρ2) ← b ρ1
      match o with
      | .nx => whlN c b n ρ2
      | .ct => whlN c b n ρ2
      | .bk => .ok (.nx, ρ2)
      | .rt y => .ok (.rt y, ρ2)
    else .ok (.nx, ρ1)
def exS (G : Defs) (fu : Nat) : MS → Rho → Out (Fl × Rho)
  | .skp, ρ => .ok (.nx, ρ)
  | .seq a b, ρ => do
    let (o, ρ1) ← exS G fu a ρ
    match o with
    | .nx => exS G fu b ρ1
    | o => .ok (o, ρ1)
  | .asg t e, ρ => do
    let (d, ρ1) ← ev G e ρ
    let ρ2 ← asgT t d ρ1
    .ok (.nx, ρ2)
  | .fre n i e, ρ => do
    let (d, ρ1) ← ev G e ρ
    .ok (.nx, ρ1.set i (some (n, d)))
  | .par ts es, ρ => do
    let (l, ρ1) ← ev G es ρ
    match l with
    | .list ds => do
      let ρ2 ← parSet ρ1 ts ds
      .ok (.nx, ρ2)
    | _ => .bad
  | .aug i o e, ρ => do
    let x ← ownD ρ 0 i
    let (y, ρ1) ← ev G e ρ
    let z ← evAug o x y
    .ok (.nx, ρ1.set i (some (0, z)))
  | .exp e, ρ => do
    let (_, ρ1) ← ev G e ρ
    .ok (.nx, ρ1)
  | .ret e, ρ => do
    let (d, ρ1) ← ev G e ρ
    .ok (.rt d, ρ1)
  | .rtn, ρ => .ok (.rt .none, ρ)
  | .ifs c a b, ρ => do
    let (x, ρ1) ← ev G c ρ
    let t ← truth x
    if t = true then exS G fu a ρ1 else exS G fu b ρ1
  | .whl c b, ρ => whlN (ev G c) (exS G fu b) fu ρ
  | .lop t it b, ρ => do
    let (l, ρ1) ← ev G it ρ
    match iterOf l with
    | some ds => loopL (fun d ρ => do
        let ρa ← asgT t d ρ
        exS G fu b ρa) ds ρ1
    | none => .bad
  | .brk, ρ => .ok (.bk, ρ)
  | .cnt, ρ => .ok (.ct, ρ)
  | .app n i k e, ρ => do
    let d0 ← ownD ρ n i
    let _ ← canApp k d0
    let (x, ρ1) ← ev G e ρ
    let d ← ownD ρ1 n i
    let d1 ← appPath k d x
    .ok (.nx, ρ1.set i (some (n, d1)))
  | .set n i ix e, ρ => do
    let (x, ρ1) ← ev G e ρ
    let _ ← ownD ρ1 n i
    let (y, ρ2) ← ev G ix ρ1
    let d ← ownD ρ2 n i
    let d1 ← setIx d y x
    .ok (.nx, ρ2.set i (some (n, d1)))
  | .setK n i k e, ρ => do
    let (x, ρ1) ← ev G e ρ
    let d ← ownD ρ1 n i
    let y ← (if isFlat x = true then .ok x else .bad)
    let d1 ← setKey d k y
    .ok (.nx, ρ1.set i (some (n, d1)))
  | .nvr, _ => .bad

/-! ### defs -/
structure Df where
  nm : Str
  N : List Str
  ps : List Str
  ms : List Nat
  ret : Nat
  kws : List (Nat × List Str × List Nat)
  body : MS
def startR (ms : List Nat) (ds : List D) (len : Nat) : Rho := (ms.zip ds).map some ++ List.replicate (len - ds.length) none
/-- what the places of the parameters hold behind -/
def outsOf (ρ : Rho) : Nat → List Nat → Out (List D)
  | _, [] => .ok []
  | i, 0 :: r => outsOf ρ (i + 1) r
  | i, (n + 1) :: r => do
    let d ← ownD ρ (n + 1) i
    .ok (d :: (← outsOf ρ (i + 1) r))
def runDf (G : Defs) (fu : Nat) (f : Df) (ds : List D) : Out (D × List D) :=
  if ds.length = f.ms.length then do
    let (o, ρ) ← exS G fu f.body (startR f.ms ds f.N.length)
    match o with
    | .nx => do .ok (.none, ← outsOf ρ 0 f.ms)
    | .rt d => do .ok (d, ← outsOf ρ 0 f.ms)
    | _ => .bad
  else .bad
def sem (P : Nat → Option Df) (fu : Nat) : Nat → Defs
  | 0, _, _ => .bad
  | n + 1, f, ds => match P f with
    | some df => runDf (sem P fu n) fu df ds
    | none => .bad
end Mini

set_option Elab.async false
set_option linter.all false
/-! Mini: how data stands in the objects: shared (Rep), owned by a place (Own); what a run keeps (Chg). -/
namespace Mini
open PySem L2

/-- a list that may be read: tracked and nobody's own, or an object of the module -/
def RL (K : PySem.W.Frag) (N : Addr → Prop) (H : Hp) (a : Addr) (xs : List V) : Prop := (Rd H a (.lst xs) ∧ ¬ N a) ∨ SqL K (fun _ => none) a xs
theorem RL.sq {K : PySem.W.Frag} {N : Addr → Prop} {H : Hp} {a : Addr} {xs : List V} (h : RL K N H a xs) : SqL K H a xs := by
  rcases h with ⟨h, _⟩ | (h | h)
  · exact .inl h
  · rcases h with h | ⟨o, h⟩ <;> cases h
  · exact .inr h
section
variable (K : PySem.W.Frag) (N : Addr → Prop) (H : Hp)
mutual
def Rep : D → V → Prop
  | .none, v => v = .non
  | .bool b, v => v = .bl b
  | .int i, v => v = .int i
  | .str s, v => v = .str s
  | .tuple ds, v => ∃ a xs, v = .ref a ∧ SqT K H a xs ∧ Reps ds xs
  | .list ds, v => ∃ a xs, v = .ref a ∧ RL K N H a xs ∧ Reps ds xs
  | .dict _, _ => False
def Reps : List D → List V → Prop
  | [], vs => vs = []
  | d :: ds, vs => ∃ x xs, vs = x :: xs ∧ Rep d x ∧ Reps ds xs
end
end
/-- item by item -/
def All2 (R : D → V → Prop) : List D → List V → Prop
  | [], vs => vs = []
  | d :: ds, vs => ∃ x xs, vs = x :: xs ∧ R d x ∧ All2 R ds xs
def All3 (R : D → V → List Addr → Prop) : List D → List V → List Addr → Prop
  | [], vs, as => vs = [] ∧ as = []
  | d :: ds, vs, as => ∃ x xs a1 a2, vs = x :: xs ∧ as = a1 ++ a2 ∧ R d x a1 ∧ All3 R ds xs a2
def keyD : D → Key → Prop
  | .str s, k => k = .inr s
  | .int i, k => k = .inl i
  | _, _ => False
def Kv2 (R : D → V → Prop) : List (D × D) → List (Key × V) → Prop
  | [], vs => vs = []
  | kd :: r, vs => ∃ k x xs, vs = (k, x) :: xs ∧ keyD kd.1 k ∧ R kd.2 x ∧ Kv2 R r xs
def Kv3 (R : D → V → List Addr → Prop) : List (D × D) → List (Key × V) → List Addr → Prop
  | [], vs, as => vs = [] ∧ as = []
  | kd :: r, vs, as => ∃ k x xs a1 a2, vs = (k, x) :: xs ∧ as = a1 ++ a2 ∧ keyD kd.1 k ∧ R kd.2 x a1 ∧ Kv3 R r xs a2
theorem reps_all {K : PySem.W.Frag} {N : Addr → Prop} {H : Hp} : ∀ {ds : List D} {xs : List V}, Reps K N H ds xs ↔ All2 (Rep K N H) ds xs
  | [], xs => by simp [Reps, All2]
  | d :: ds, xs => by simp only [Reps, All2, reps_all (ds := ds)]
theorem All2.imp {R R' : D → V → Prop} (f : ∀ d x, R d x → R' d x) : ∀ {ds : List D} {xs : List V}, All2 R ds xs → All2 R' ds xs
  | [], _, h => h
  | _ :: _, _, ⟨x, xs, e, r, t⟩ => ⟨x, xs, e, f _ _ r, All2.imp f t⟩
theorem All2.length {R : D → V → Prop} : ∀ {ds : List D} {xs : List V}, All2 R ds xs → ds.length = xs.length
  | [], _, h => by cases h; rfl
  | _ :: _, _, ⟨x, xs, e, _, t⟩ => by subst e; simp [All2.length t]
theorem All2.get {R : D → V → Prop} : ∀ {ds : List D} {xs : List V} {i : Nat} {d : D}, All2 R ds xs → ds[i]? = some d → ∃ x, xs[i]? = some x ∧ R d x
  | [], _, _, _, _, e => by simp at e
  | d :: ds, _, 0, _, ⟨x, xs, e, r, _⟩, h => by subst e; simp at h; subst h; exact ⟨x, by simp, r⟩
  | d :: ds, _, i + 1, _, ⟨x, xs, e, _, t⟩, h => by subst e; simpa using All2.get (i := i) t (by simpa using h)
theorem All2.append {R : D → V → Prop} : ∀ {ds es : List D} {xs ys : List V}, All2 R ds xs → All2 R es ys → All2 R (ds ++ es) (xs ++ ys)
  | [], _, _, _, h, k => by cases h; exact k
  | _ :: _, _, _, _, ⟨x, xs, e, r, t⟩, k => by subst e; exact ⟨x, _, rfl, r, All2.append t k⟩
theorem All2.one {R : D → V → Prop} {d : D} {x : V} (h : R d x) : All2 R [d] [x] := ⟨x, [], rfl, h, rfl⟩
theorem All2.drop {R : D → V → Prop} : ∀ {ds : List D} {xs : List V} (n : Nat), All2 R ds xs → All2 R (ds.drop n) (xs.drop n)
  | _, _, 0, h => h
  | [], _, _ + 1, h => by cases h; exact rfl
  | _ :: _, _, n + 1, ⟨x, xs, e, _, t⟩ => by subst e; exact All2.drop n t
theorem All2.take {R : D → V → Prop} : ∀ {ds : List D} {xs : List V} (n : Nat), All2 R ds xs → All2 R (ds.take n) (xs.take n)
  | _, _, 0, _ => by simp [All2]
  | [], _, _ + 1, h => by cases h; exact rfl
  | _ :: _, _, n + 1, ⟨x, xs, e, r, t⟩ => by subst e; exact ⟨x, _, rfl, r, All2.take n t⟩
theorem All2.reverse {R : D → V → Prop} : ∀ {ds : List D} {xs : List V}, All2 R ds xs → All2 R ds.reverse xs.reverse
  | [], _, h => by cases h; exact rfl
  | _ :: _, _, ⟨x, xs, e, r, t⟩ => by
    subst e
    rw [List.reverse_cons, List.reverse_cons]
    exact All2.append (All2.reverse t) (All2.one r)
theorem All2.set {R : D → V → Prop} {d : D} {x : V} (hr : R d x) : ∀ {ds : List D} {xs : List V} (i : Nat), All2 R ds xs → All2 R (ds.set i d) (xs.set i x)
  | [], _, _, h => by cases h; exact rfl
  | _ :: _, _, 0, ⟨_, xs, e, _, t⟩ => by subst e; exact ⟨x, xs, rfl, hr, t⟩
  | _ :: _, _, i + 1, ⟨y, xs, e, r, t⟩ => by subst e; exact ⟨y, _, rfl, r, All2.set hr i t⟩
theorem All2.dropLast {R : D → V → Prop} {ds : List D} {xs : List V} (h : All2 R ds xs) : All2 R ds.dropLast xs.dropLast := by
  rw [List.dropLast_eq_take, List.dropLast_eq_take, h.length]
  exact h.take _

section
variable (K : PySem.W.Frag) (N : Addr → Prop) (H : Hp)
/-- looked at as it stands: the first n levels may be owned by somebody -/
def RepB : Nat → D → V → Prop
  | 0, d, v => Rep K N H d v
  | n + 1, .list ds, v => ∃ a xs, v = .ref a ∧ SqL K H a xs ∧ All2 (RepB n) ds xs
  | n + 1, .dict kvs, v => ∃ a ks, v = .ref a ∧ H a = some (.dK ks) ∧ Kv2 (RepB n) kvs ks
  | _ + 1, d, v => Rep K N H d v
/-- owned, n levels deep: the objects are those at the addresses, in this order -/
def Own : Nat → D → V → List Addr → Prop
  | 0, d, v, as => as = [] ∧ Rep K N H d v
  | n + 1, .list ds, v, as => ∃ a xs bs, v = .ref a ∧ H a = some (.lst xs) ∧ as = a :: bs ∧ All3 (Own n) ds xs bs
  | n + 1, .dict kvs, v, as => ∃ a ks bs, v = .ref a ∧ (H a = some (.dK ks) ∧ (ks.map Prod.fst).Nodup) ∧ as = a :: bs ∧ Kv3 (Own n) kvs ks bs
  | _ + 1, d, v, as => as = [] ∧ Rep K N H d v
end
theorem own_flat {K : PySem.W.Frag} {N : Addr → Prop} {H : Hp} {d : D} {v : V} {as : List Addr} (f : isFlat d = true) : ∀ {n : Nat}, Own K N H n d v as ↔ (as = [] ∧ Rep K N H d v) := by
  intro n
  cases n with
  | zero => exact Iff.rfl
  | succ n => cases d <;> first | exact Iff.rfl | cases f
/-- an object that may be changed -/
def isMut : HO → Prop
  | .lst _ => True
  | .dK _ => True
  | _ => False
def OT (H : Hp) (as : List Addr) : Prop := ∀ a ∈ as, ∃ o, H a = some o ∧ isMut o
theorem all3_ot {H : Hp} {R : D → V → List Addr → Prop} (f : ∀ d v as, R d v as → OT H as) : ∀ {ds : List D} {xs : List V} {as : List Addr}, All3 R ds xs as → OT H as
  | [], _, _, ⟨_, e⟩ => by subst e; intro a h; cases h
  | _ :: _, _, _, ⟨x, xs, a1, a2, _, e, r, t⟩ => by
    subst e
    intro a h
    rcases List.mem_append.mp h with h | h
    · exact f _ _ _ r a h
    · exact all3_ot f t a h
theorem kv3_ot {H : Hp} {R : D → V → List Addr → Prop} (f : ∀ d v as, R d v as → OT H as) : ∀ {ds : List (D × D)} {xs : List (Key × V)} {as : List Addr}, Kv3 R ds xs as → OT H as
  | [], _, _, ⟨_, e⟩ => by subst e; intro a h; cases h
  | _ :: _, _, _, ⟨k, x, xs, a1, a2, _, e, _, r, t⟩ => by
    subst e
    intro a h
    rcases List.mem_append.mp h with h | h
    · exact f _ _ _ r a h
    · exact kv3_ot f t a h
theorem own_ot {K : PySem.W.Frag} {N : Addr → Prop} {H : Hp} : ∀ {n : Nat} {d : D} {v : V} {as : List Addr}, Own K N H n d v as → OT H as
  | 0, _, _, _, h => by obtain ⟨rfl, _⟩ := h; intro a h; cases h
  | n + 1, d, v, as, h => by
    have flat : as = [] → OT H as := fun e => by subst e; intro a h; cases h
    cases d with
    | list ds =>
      obtain ⟨a, xs, bs, _, e, rfl, t⟩ := h
      intro b hb
      rcases List.mem_cons.mp hb with rfl | hb
      · exact ⟨_, e, True.intro⟩
      · exact all3_ot (fun _ _ _ => own_ot) t b hb
    | dict kvs =>
      obtain ⟨a, xs, bs, _, ⟨e, _⟩, rfl, t⟩ := h
      intro b hb
      rcases List.mem_cons.mp hb with rfl | hb
      · exact ⟨_, e, True.intro⟩
      · exact kv3_ot (fun _ _ _ => own_ot) t b hb
    | none => exact flat h.1
    | bool b => exact flat h.1
    | int i => exact flat h.1
    | str s => exact flat h.1
    | tuple l => exact flat h.1

/-! ### the state of a frame -/
/-- more that is owned by others -/
def pl (B : Addr → Prop) (as : List Addr) : Addr → Prop := fun a => B a ∨ a ∈ as
theorem pl_nil {B : Addr → Prop} : pl B [] = B := by
  funext a
  simp [pl]
theorem pl_app {B : Addr → Prop} {as bs : List Addr} : pl (pl B as) bs = pl B (as ++ bs) := by
  funext a
  simp [pl, or_assoc]
/-- what the shared must not be: somebody's own -/
def NN (O : Nat → List Addr) (B : Addr → Prop) : Addr → Prop := fun a => (∃ i, a ∈ O i) ∨ B a
def KD (_ : PySem.W.Frag) (_ : Hp) : Prop := True
/-- the places of ρ stand in σ and H; O i: what the place i owns; B: what the callers own -/
structure SR (K : PySem.W.Frag) (B : Addr → Prop) (σ : L2.St) (H : Hp) (ρ : Rho) (O : Nat → List Addr) : Prop where
  kd : KD K H
  len : σ.length = ρ.length
  sl : ∀ i n d, getS ρ i = some (n, d) → ∃ v, σ[i]? = some (some v) ∧ Own K (NN O B) H n d v (O i)
  em : ∀ i, getS ρ i = none → O i = []
  dj : ∀ i j a, a ∈ O i → a ∈ O j → i = j
  nd : ∀ i, (O i).Nodup
  nb : ∀ i a, a ∈ O i → ¬ B a
  bt : ∀ a, B a → H a ≠ none
/-- what a run that touches the places of S keeps -/
structure Chg (S : Nat → Prop) (H : Hp) (ρ : Rho) (O : Nat → List Addr) (H' : Hp) (ρ' : Rho) (O' : Nat → List Addr) : Prop where
  same : ∀ j, ¬ S j → getS ρ' j = getS ρ j ∧ O' j = O j
  fresh : ∀ j a, S j → a ∈ O' j → (∃ i, S i ∧ a ∈ O i) ∨ H a = none
  pres : ∀ a o, H a = some o → (∀ i, S i → a ∉ O i) → H' a = some o
  len : ρ'.length = ρ.length
section
variable {K : PySem.W.Frag} {B : Addr → Prop} {σ σ' : L2.St} {H H' H1 H2 : Hp} {ρ ρ' ρ1 ρ2 : Rho} {O O' O1 O2 : Nat → List Addr} {S S' : Nat → Prop}
theorem SR.ot (h : SR K B σ H ρ O) (i : Nat) : OT H (O i) := by
  cases e : getS ρ i with
  | none => rw [h.em i e]; intro a h; cases h
  | some p =>
    obtain ⟨n, d⟩ := p
    obtain ⟨v, _, o⟩ := h.sl i n d e
    exact own_ot o
theorem SR.tr (h : SR K B σ H ρ O) {a : Addr} (n : NN O B a) : H a ≠ none := by
  rcases n with ⟨i, hi⟩ | hb
  · obtain ⟨o, e, _⟩ := h.ot i a hi
    rw [e]; simp
  · exact h.bt a hb
theorem Chg.refl : Chg S H ρ O H ρ O := ⟨fun _ _ => ⟨rfl, rfl⟩, fun j a s h => .inl ⟨j, s, h⟩, fun _ _ h _ => h, rfl⟩
theorem Chg.mono (c : Chg S H ρ O H' ρ' O') (k : ∀ j, S j → S' j) : Chg S' H ρ O H' ρ' O' := by
  refine ⟨fun j n => c.same j fun s => n (k j s), fun j a s h => ?_, fun a o h n => c.pres a o h fun i s => n i (k i s), c.len⟩
  by_cases q : S j
  · rcases c.fresh j a q h with ⟨i, si, hi⟩ | z
    · exact .inl ⟨i, k i si, hi⟩
    · exact .inr z
  · rw [(c.same j q).2] at h
    exact .inl ⟨j, s, h⟩
theorem Chg.trans (c : Chg S H ρ O H1 ρ1 O1) (c2 : Chg S H1 ρ1 O1 H2 ρ2 O2) : Chg S H ρ O H2 ρ2 O2 := by
  have back : ∀ a, H1 a = none → (∃ i, S i ∧ a ∈ O i) ∨ H a = none := fun a z => by
    cases e : H a with
    | none => exact .inr rfl
    | some o =>
      refine .inl ?_
      by_cases q : ∃ i, S i ∧ a ∈ O i
      · exact q
      · have := c.pres a o e fun i s h => q ⟨i, s, h⟩
        rw [z] at this; cases this
  refine ⟨fun j n => ⟨(c2.same j n).1.trans (c.same j n).1, (c2.same j n).2.trans (c.same j n).2⟩, fun j a s h => ?_, fun a o h n => ?_, c2.len.trans c.len⟩
  · rcases c2.fresh j a s h with ⟨i, si, hi⟩ | z
    · exact c.fresh i a si hi
    · exact back a z
  · refine c2.pres a o (c.pres a o h n) fun i s hi => ?_
    rcases c.fresh i a s hi with ⟨k, sk, hk⟩ | z
    · exact n k sk hk
    · rw [h] at z; cases z
theorem Chg.seq {S1 S2 : Nat → Prop} (c : Chg S1 H ρ O H1 ρ1 O1) (c2 : Chg S2 H1 ρ1 O1 H2 ρ2 O2) : Chg (fun j => S1 j ∨ S2 j) H ρ O H2 ρ2 O2 :=
  (c.mono fun _ => .inl).trans (c2.mono fun _ => .inr)
/-- what stood unowned stands as it was -/
theorem Chg.keep (c : Chg S H ρ O H' ρ' O') {a : Addr} {o : HO} (h : H a = some o) (n : ¬ ∃ i, a ∈ O i) : H' a = some o := c.pres a o h fun i _ hi => n ⟨i, hi⟩

/-! ### the shared stays -/
/-- what is known of two states, for the shared to stay -/
structure Stay (K : PySem.W.Frag) (N N' : Addr → Prop) (H H' : Hp) : Prop where
  keep : ∀ a o, H a = some o → (isMut o → ¬ N a) → H' a = some o
  out : ∀ a, ¬ N a → H a ≠ none → ¬ N' a
theorem SR.stay (r : SR K B σ H ρ O) (c : Chg S H ρ O H' ρ' O') (r' : SR K B σ' H' ρ' O') : Stay K (NN O B) (NN O' B) H H' := by
  refine ⟨fun a o h n => c.keep h fun ⟨i, hi⟩ => ?_, fun a n h => ?_⟩
  · obtain ⟨u, e, m⟩ := r.ot i a hi
    rw [h] at e; cases e
    exact n m (.inl ⟨i, hi⟩)
  · rintro (⟨j, hj⟩ | hb)
    · by_cases s : S j
      · rcases c.fresh j a s hj with ⟨i, _, hi⟩ | z
        · exact n (.inl ⟨i, hi⟩)
        · exact h z
      · rw [(c.same j s).2] at hj
        exact n (.inl ⟨j, hj⟩)
    · exact n (.inr hb)
theorem sqL_stay {N N' : Addr → Prop} {a : Addr} {xs : List V} (s : Stay K N N' H H') (h : Rd H a (.lst xs)) (n : ¬ N a) : Rd H' a (.lst xs) := by
  rcases h with h | ⟨o, h⟩
  · exact .inl (s.keep a _ h fun _ => n)
  · exact .inr ⟨o, s.keep a _ h fun _ => n⟩
theorem sqT_stay {N N' : Addr → Prop} {a : Addr} {xs : List V} (s : Stay K N N' H H') (h : SqT K H a xs) : SqT K H' a xs := by
  rcases h with (h | ⟨o, h⟩) | h
  · exact .inl (.inl (s.keep a _ h fun m => m.elim))
  · exact .inl (.inr ⟨o, s.keep a _ h fun m => m.elim⟩)
  · exact .inr h
theorem sqL_there {a : Addr} {xs : List V} (h : Rd H a (.lst xs)) : H a ≠ none := by
  rcases h with h | ⟨o, h⟩
  · rw [h]; simp
  · rw [h]; simp
theorem rl_stay {N N' : Addr → Prop} {a : Addr} {xs : List V} (s : Stay K N N' H H') (h : RL K N H a xs) : RL K N' H' a xs := by
  rcases h with ⟨q, n⟩ | h
  · exact .inl ⟨sqL_stay s q n, s.out a n (sqL_there q)⟩
  · exact .inr h
mutual
theorem rep_stay {N N' : Addr → Prop} (s : Stay K N N' H H') : ∀ (d : D) (v : V), Rep K N H d v → Rep K N' H' d v
  | .none, _, h => h
  | .bool _, _, h => h
  | .int _, _, h => h
  | .str _, _, h => h
  | .tuple ds, _, ⟨a, xs, e, q, t⟩ => ⟨a, xs, e, sqT_stay s q, reps_stay s ds xs t⟩
  | .list ds, _, ⟨a, xs, e, q, t⟩ => ⟨a, xs, e, rl_stay s q, reps_stay s ds xs t⟩
  | .dict _, _, h => h.elim
theorem reps_stay {N N' : Addr → Prop} (s : Stay K N N' H H') : ∀ (ds : List D) (vs : List V), Reps K N H ds vs → Reps K N' H' ds vs
  | [], _, h => h
  | d :: ds, _, ⟨x, xs, e, r, t⟩ => ⟨x, xs, e, rep_stay s d x r, reps_stay s ds xs t⟩
end
theorem all3_imp {R R' : D → V → List Addr → Prop} : ∀ {ds : List D} {xs : List V} {as : List Addr}, (∀ d x bs, (∀ b ∈ bs, b ∈ as) → R d x bs → R' d x bs) → All3 R ds xs as → All3 R' ds xs as
  | [], _, _, _, h => h
  | _ :: _, _, _, f, ⟨x, xs, a1, a2, e, e2, r, t⟩ => by
    subst e2
    exact ⟨x, xs, a1, a2, e, rfl, f _ _ _ (fun b hb => List.mem_append_left _ hb) r, all3_imp (fun d x bs hb => f d x bs fun b h => List.mem_append_right _ (hb b h)) t⟩
theorem kv3_imp {R R' : D → V → List Addr → Prop} : ∀ {ds : List (D × D)} {xs : List (Key × V)} {as : List Addr}, (∀ d x bs, (∀ b ∈ bs, b ∈ as) → R d x bs → R' d x bs) → Kv3 R ds xs as → Kv3 R' ds xs as
  | [], _, _, _, h => h
  | _ :: _, _, _, f, ⟨k, x, xs, a1, a2, e, e2, q, r, t⟩ => by
    subst e2
    exact ⟨k, x, xs, a1, a2, e, rfl, q, f _ _ _ (fun b hb => List.mem_append_left _ hb) r, kv3_imp (fun d x bs hb => f d x bs fun b h => List.mem_append_right _ (hb b h)) t⟩
theorem own_stay {N N' : Addr → Prop} (s : Stay K N N' H H') : ∀ {n : Nat} {d : D} {v : V} {as : List Addr}, (∀ a ∈ as, ∀ o, H a = some o → H' a = some o) → Own K N H n d v as → Own K N' H' n d v as
  | 0, d, v, _, _, h => ⟨h.1, rep_stay s d v h.2⟩
  | n + 1, d, v, as, k, h => by
    cases d with
    | list ds =>
      obtain ⟨a, xs, bs, e, h1, rfl, t⟩ := h
      exact ⟨a, xs, bs, e, k a List.mem_cons_self _ h1, rfl, all3_imp (fun d x cs hc o => own_stay s (fun b hb => k b (List.mem_cons_of_mem _ (hc b hb))) o) t⟩
    | dict kvs =>
      obtain ⟨a, xs, bs, e, h1, rfl, t⟩ := h
      exact ⟨a, xs, bs, e, ⟨k a List.mem_cons_self _ h1.1, h1.2⟩, rfl, kv3_imp (fun d x cs hc o => own_stay s (fun b hb => k b (List.mem_cons_of_mem _ (hc b hb))) o) t⟩
    | none => exact ⟨h.1, rep_stay s _ v h.2⟩
    | bool b => exact ⟨h.1, rep_stay s _ v h.2⟩
    | int i => exact ⟨h.1, rep_stay s _ v h.2⟩
    | str x => exact ⟨h.1, rep_stay s _ v h.2⟩
    | tuple l => exact ⟨h.1, rep_stay s _ v h.2⟩
/-- the owned becomes shared: nobody owns it any more -/
theorem all3_rep {N : Addr → Prop} {R : D → V → List Addr → Prop} : ∀ {ds : List D} {xs : List V} {as : List Addr}, (∀ d x bs, (∀ b ∈ bs, b ∈ as) → R d x bs → Rep K N H d x) → All3 R ds xs as → Reps K N H ds xs
  | [], _, _, _, h => h.1
  | _ :: _, _, _, f, ⟨x, xs, a1, a2, e, e2, r, t⟩ => by
    subst e2
    exact ⟨x, xs, e, f _ _ _ (fun b hb => List.mem_append_left _ hb) r, all3_rep (fun d x bs hb => f d x bs fun b h => List.mem_append_right _ (hb b h)) t⟩
theorem all3_repN {N : Addr → Prop} {R : D → V → List Addr → Prop} : ∀ {ds : List D} {xs : List V} {as : List Addr}, (∀ d ∈ ds, ∀ x bs, (∀ b ∈ bs, b ∈ as) → R d x bs → Rep K N H d x) → All3 R ds xs as → Reps K N H ds xs
  | [], _, _, _, h => h.1
  | d :: ds, _, _, f, ⟨x, xs, a1, a2, e, e2, r, t⟩ => by
    subst e2
    exact ⟨x, xs, e, f d List.mem_cons_self _ _ (fun b hb => List.mem_append_left _ hb) r, all3_repN (fun d hd x bs hb => f d (List.mem_cons_of_mem _ hd) x bs fun b h => List.mem_append_right _ (hb b h)) t⟩
theorem own_rep {N : Addr → Prop} : ∀ {n : Nat} {d : D} {v : V} {as : List Addr}, noDict n d = true → (∀ a ∈ as, ¬ N a) → Own K N H n d v as → Rep K N H d v
  | 0, d, v, _, _, _, h => h.2
  | n + 1, d, v, as, nd, k, h => by
    cases d with
    | list ds =>
      obtain ⟨a, xs, bs, e, h1, rfl, t⟩ := h
      refine ⟨a, xs, e, .inl ⟨Rd.of h1, k a List.mem_cons_self⟩, all3_repN (fun d hd x cs hc o => own_rep (List.all_eq_true.mp nd d hd) (fun b hb => k b (List.mem_cons_of_mem _ (hc b hb))) o) t⟩
    | dict kvs => cases nd
    | none => exact h.2
    | bool b => exact h.2
    | int i => exact h.2
    | str x => exact h.2
    | tuple l => exact h.2
end
end Mini

set_option Elab.async false
set_option linter.all false
set_option maxHeartbeats 1000000
/-! Mini: the operations on values. -/
namespace Mini
open PySem L2 PySem.Spec PyProof.Rows

section
variable (K : PySem.W.Frag) (N : Addr → Prop) (H : Hp)
/-- looked at: the object itself may be owned by somebody -/
def Look : D → V → Prop
  | .list ds, v => ∃ a xs, v = .ref a ∧ SqL K H a xs ∧ All2 (Rep K N H) ds xs
  | .dict _, v => ∃ a, v = .ref a
  | d, v => Rep K N H d v
/-- what an operation gives: an unowned value, a new tuple, a new list -/
inductive NewV : D → V → List Addr → Hp → Prop
  | same {z : D} {v : V} : (∀ l, z ≠ .list l) → (∀ l, z ≠ .dict l) → Rep K N H z v → NewV z v [] H
  | tup {p : Addr} {xs : List V} {ds : List D} : H p = none → All2 (Rep K N H) ds xs → NewV (.tuple ds) (.ref p) [] (upd H p (.tup xs))
  | lst {p : Addr} {xs : List V} {ds : List D} : H p = none → All2 (Rep K N H) ds xs → NewV (.list ds) (.ref p) [p] (upd H p (.lst xs))
def Pst (z : D) (Q : VK) : Prop := ∀ v as H', NewV K N H z v as H' → Q v H'
end
section
variable {K : PySem.W.Frag} {N : Addr → Prop} {H : Hp}
theorem Rep.look : ∀ {d : D} {v : V}, Rep K N H d v → Look K N H d v
  | .list _, _, ⟨a, xs, e, q, t⟩ => ⟨a, xs, e, q.sq, reps_all.mp t⟩
  | .none, _, h => h
  | .bool _, _, h => h
  | .int _, _, h => h
  | .str _, _, h => h
  | .tuple _, _, h => h
  | .dict _, _, h => h.elim
mutual
theorem rep_dp : ∀ (d : D) (v : V), Rep K N H d v → Dp K H v d
  | .none, _, h => by cases h; exact .non
  | .bool b, _, h => by cases h; exact .bl b
  | .int i, _, h => by cases h; exact .int i
  | .str x, _, h => by cases h; exact .str x
  | .tuple ds, _, ⟨a, xs, e, q, t⟩ => by subst e; exact .tup q (reps_dp ds xs t)
  | .list ds, _, ⟨a, xs, e, q, t⟩ => by subst e; exact .lst q.sq (reps_dp ds xs t)
  | .dict _, _, h => h.elim
theorem reps_dp : ∀ (ds : List D) (vs : List V), Reps K N H ds vs → DpAll K H vs ds
  | [], _, h => by cases h; exact .nil
  | d :: ds, _, ⟨x, xs, e, r, t⟩ => by subst e; exact .cons (rep_dp d x r) (reps_dp ds xs t)
end
theorem Look.dp {d : D} {v : V} (c : ∀ l, d ≠ .dict l) (h : Look K N H d v) : Dp K H v d := by
  cases d with
  | list ds =>
    obtain ⟨a, xs, e, q, t⟩ := h
    subst e
    exact .lst q (reps_dp ds xs (reps_all.mpr t))
  | none => exact rep_dp (N := N) _ _ h
  | bool b => exact rep_dp (N := N) _ _ h
  | int i => exact rep_dp (N := N) _ _ h
  | str x => exact rep_dp (N := N) _ _ h
  | tuple l => exact rep_dp (N := N) _ _ h
  | dict l => exact absurd rfl (c l)
theorem shaped_no {d : D} (h : SeqAt.shaped d = true) : ∀ l, d ≠ .dict l := fun l e => by
  subst e
  cases h
theorem Pst.flat {z : D} {Q : VK} {v : V} (h : Pst K N H z Q) (r : Rep K N H z v) (nl : ∀ l, z ≠ .list l := by intro l e; cases e) (nd : ∀ l, z ≠ .dict l := by intro l e; cases e) : Q v H := h v [] H (.same nl nd r)
theorem flat_v {d : D} {v : V} (h : Rep K N H d v) (f : isFlat d = true) : flatV v = true := by
  cases d <;> first | (exact absurd f Bool.false_ne_true) | (simp only [Rep] at h; subst h; rfl)
theorem eqV_of {d e : D} {x y : V} (h : Rep K N H d x) (h' : Rep K N H e y) (f : isFlat d = true) (f' : isFlat e = true) : eqV x y = PyData.eqv d e := by
  cases d <;> cases e <;> first | (exact absurd f Bool.false_ne_true) | (exact absurd f' Bool.false_ne_true) | (simp only [Rep] at h h'; subst h h'; rfl)
theorem flat_all : ∀ {ds : List D} {xs : List V}, All2 (Rep K N H) ds xs → ds.all isFlat = true → xs.all flatV = true
  | [], _, h, _ => by cases h; rfl
  | d :: ds, _, ⟨x, xs, e, r, t⟩, f => by
    subst e
    rw [List.all_cons, Bool.and_eq_true] at f
    rw [List.all_cons, flat_v r f.1, flat_all t f.2]
    rfl
theorem inV_of {d : D} {x : V} (h : Rep K N H d x) (f : isFlat d = true) : ∀ {ds : List D} {xs : List V}, All2 (Rep K N H) ds xs → ds.all isFlat = true → inV x xs = inD d ds
  | [], _, h, _ => by cases h; rfl
  | e :: ds, _, ⟨y, xs, e1, r, t⟩, g => by
    subst e1
    rw [List.all_cons, Bool.and_eq_true] at g
    have ih := inV_of h f t g.2
    unfold inV inD at ih ⊢
    rw [List.any_cons, List.any_cons, eqV_of r h g.1 f, ih]
theorem ints_v : ∀ {ds : List D} {xs : List V} {ns : List Int}, All2 (Rep K N H) ds xs → intsOf ds = some ns → xs = ns.map V.int
  | [], _, _, h, e => by cases h; cases e; rfl
  | .int i :: ds, _, _, ⟨x, xs, e1, r, t⟩, e => by
    subst e1
    simp only [intsOf, Option.map_eq_some_iff] at e
    obtain ⟨ms, e2, rfl⟩ := e
    cases r
    rw [ints_v t e2]
    rfl
  | .none :: _, _, _, _, e => by cases e
  | .bool _ :: _, _, _, _, e => by cases e
  | .str _ :: _, _, _, _, e => by cases e
  | .list _ :: _, _, _, _, e => by cases e
  | .tuple _ :: _, _, _, _, e => by cases e
  | .dict _ :: _, _, _, _, e => by cases e
theorem bools_v : ∀ {ds : List D} {xs : List V} {ns : List Bool}, All2 (Rep K N H) ds xs → boolsOf ds = some ns → xs = ns.map V.bl
  | [], _, _, h, e => by cases h; cases e; rfl
  | .bool i :: ds, _, _, ⟨x, xs, e1, r, t⟩, e => by
    subst e1
    simp only [boolsOf, Option.map_eq_some_iff] at e
    obtain ⟨ms, e2, rfl⟩ := e
    cases r
    rw [bools_v t e2]
    rfl
  | .none :: _, _, _, _, e => by cases e
  | .int _ :: _, _, _, _, e => by cases e
  | .str _ :: _, _, _, _, e => by cases e
  | .list _ :: _, _, _, _, e => by cases e
  | .tuple _ :: _, _, _, _, e => by cases e
  | .dict _ :: _, _, _, _, e => by cases e
theorem lim_line {n : Nat} (h : n ≤ LIM) : n ≤ sizeLine := by
  rw [sizeLine_eq]
  exact Nat.le_trans h (by unfold LIM; decide)
theorem lim_lt {n : Nat} (h : n < LIM) : n < sizeLine := by
  rw [sizeLine_eq]
  exact Nat.lt_of_lt_of_le h (by unfold LIM; decide)
end

/-- a two-place operation, as data -/
def rD (K : PySem.W.Frag) (o : Op2) : R2 := fun x y H Q => ∃ N dx dy, Look K N H dx x ∧ Look K N H dy y ∧ (ev2 o dx dy).sat fun z => Pst K N H z Q
section
variable {X : Cx}
/-- list + list, both only read -/
theorem op_catR : OpR X (binaryOp .Add) (fun x y H Q => ∃ l b xs zs, x = .ref l ∧ y = .ref b ∧ SqL X.K H l xs ∧ SqL X.K H b zs ∧ xs.length + zs.length ≤ sizeLine ∧ ∀ p, H p = none → Q (.ref p) (upd H p (.lst (xs ++ zs)))) := by
  intro pins s σ H x y v u Q I rx ry h
  obtain ⟨l, b, xs, zs, rfl, rfl, hL, hB, hz, q⟩ := h
  cases rx
  cases ry
  obtain ⟨its, r, ⟨⟨cls, dd, data, sl⟩, n, e, c1, c2, c3⟩, z⟩ := I.list hL
  obtain ⟨its2, r2, ⟨⟨cls2, dd2, data2, sl2⟩, n2, e2, d1, d2, d3⟩, z2⟩ := I.list hB
  simp only at c1 c3 d1 d3
  subst c1 c3 d1 d3
  have hl := r.length
  have hl2 := r2.length
  have ea : its.toArray ++ its2.toArray = (its ++ its2).toArray := by simp
  refine concat_meets ⟨_, e, rfl⟩ ⟨_, e2, rfl⟩ noFill_list_add seq_list_add PySem.F.slot_list_add PySem.F.entry_list_add (PySem.F.args_list_add_2 _ _) (list_addW l b its.toArray its2.toArray n n2 dd dd2 sl sl2 (by simp; omega)) ⟨e, e2, ?_⟩
  rw [ea]
  exact ⟨.ref _, _, I.lnew (t' := s.toks) (r.append r2) (by rw [List.length_append]; omega), rfl, q _ I.fresh⟩
theorem bool_rep {K : PySem.W.Frag} {N : Addr → Prop} {H : Hp} {Q : VK} {b c : Bool} (h : Pst K N H (.bool b) Q) (e : b = c) : Q (.bl c) H := by subst e; exact h.flat (by exact rfl)
theorem opD_add : OpR X (binaryOp .Add) (rD X.K .add) := by
  intro pins s σ H x y v u Q I rx ry h
  obtain ⟨N, dx, dy, hx, hy, h⟩ := h
  cases dx <;> cases dy <;> first | exact False.elim h | skip
  · cases hx; cases hy
    exact op_add pins s σ H _ _ v u Q I rx ry ⟨_, _, rfl, rfl, h.flat (by exact rfl)⟩
  · rename_i a b
    obtain ⟨p, xs, rfl, sx, tx⟩ := hx
    obtain ⟨q, ys, rfl, sy, ty⟩ := hy
    by_cases hz : a.length + b.length ≤ LIM
    · simp only [ev2, if_pos hz] at h
      refine op_catR pins s σ H _ _ v u Q I rx ry ⟨p, q, xs, ys, rfl, rfl, sx, sy, ?_, fun w hw => h _ _ _ (.lst hw (tx.append ty))⟩
      rw [← tx.length, ← ty.length]
      exact lim_line hz
    · simp only [ev2, if_neg hz] at h
      exact h.elim
  · rename_i a b
    obtain ⟨p, xs, rfl, sx, tx⟩ := hx
    obtain ⟨q, ys, rfl, sy, ty⟩ := hy
    rw [reps_all] at tx ty
    by_cases hz : a.length + b.length ≤ LIM
    · simp only [ev2, if_pos hz] at h
      refine op_catA pins s σ H _ _ v u Q I rx ry ⟨p, q, xs, ys, rfl, rfl, sx, sy, ?_, fun e => ?_, fun _ e => ?_, fun _ _ w hw => h _ _ _ (.tup hw (tx.append ty))⟩
      · rw [← tx.length, ← ty.length]
        exact lim_line hz
      · have e' : a = [] := by have := tx.length; rw [e] at this; simpa using this
        subst e'
        exact h.flat ⟨q, ys, rfl, sy, reps_all.mpr ty⟩
      · have e' : b = [] := by have := ty.length; rw [e] at this; simpa using this
        subst e'
        exact h.flat (by rw [List.append_nil]; exact ⟨p, xs, rfl, sx, reps_all.mpr tx⟩)
    · simp only [ev2, if_neg hz] at h
      exact h.elim
theorem opD_sub : OpR X (binaryOp .Sub) (rD X.K .sub) := by
  intro pins s σ H x y v u Q I rx ry h
  obtain ⟨N, dx, dy, hx, hy, h⟩ := h
  cases dx <;> cases dy <;> first | exact False.elim h | skip
  cases hx; cases hy
  exact op_sub pins s σ H _ _ v u Q I rx ry ⟨_, _, rfl, rfl, h.flat (by exact rfl)⟩
theorem opD_mul : OpR X (binaryOp .Mult) (rD X.K .mul) := by
  intro pins s σ H x y v u Q I rx ry h
  obtain ⟨N, dx, dy, hx, hy, h⟩ := h
  cases dx <;> cases dy <;> first | exact False.elim h | skip
  rename_i i j
  cases hx; cases hy
  by_cases c : mulOk i j = true
  · simp only [ev2, if_pos c] at h
    exact op_mulW pins s σ H _ _ v u Q I rx ry ⟨_, _, rfl, rfl, (show i.natAbs.log2 + j.natAbs.log2 < 1000000 from of_decide_eq_true c), h.flat (by exact rfl)⟩
  · simp only [ev2, if_neg c] at h
    exact h.elim
theorem opD_fdv : OpR X (binaryOp .FloorDiv) (rD X.K .fdv) := by
  intro pins s σ H x y v u Q I rx ry h
  obtain ⟨N, dx, dy, hx, hy, h⟩ := h
  cases dx <;> cases dy <;> first | exact False.elim h | skip
  rename_i i j
  cases hx; cases hy
  by_cases c : 0 < j ∧ j.natAbs.log2 < 9000
  · simp only [ev2, if_pos c] at h
    exact op_fdivW pins s σ H _ _ v u Q I rx ry ⟨_, _, rfl, rfl, c, h.flat (by exact rfl)⟩
  · simp only [ev2, if_neg c] at h
    exact h.elim
theorem opD_mod : OpR X (binaryOp .Mod) (rD X.K .mod) := by
  intro pins s σ H x y v u Q I rx ry h
  obtain ⟨N, dx, dy, hx, hy, h⟩ := h
  cases dx <;> cases dy <;> first | exact False.elim h | skip
  rename_i i j
  cases hx; cases hy
  by_cases c : 0 < j
  · simp only [ev2, if_pos c] at h
    exact op_mod pins s σ H _ _ v u Q I rx ry ⟨_, _, rfl, rfl, c, h.flat (by exact rfl)⟩
  · simp only [ev2, if_neg c] at h
    exact h.elim
theorem opD_pow : OpR X (binaryOp .Pow) (rD X.K .pow) := by
  intro pins s σ H x y v u Q I rx ry h
  obtain ⟨N, dx, dy, hx, hy, h⟩ := h
  cases dx <;> cases dy <;> first | exact False.elim h | skip
  rename_i i j
  cases hx; cases hy
  by_cases c : 0 ≤ j ∧ j ≤ 1000000 ∧ i.natAbs < 2 ^ 64
  · simp only [ev2, if_pos c] at h
    exact op_pow pins s σ H _ _ v u Q I rx ry ⟨_, _, rfl, rfl, c, h.flat (by exact rfl)⟩
  · simp only [ev2, if_neg c] at h
    exact h.elim
theorem opD_lt : OpR X (compareOp .Lt) (rD X.K .lt) := by
  intro pins s σ H x y v u Q I rx ry h
  obtain ⟨N, dx, dy, hx, hy, h⟩ := h
  cases dx <;> cases dy <;> first | exact False.elim h | skip
  cases hx; cases hy
  exact op_lt pins s σ H _ _ v u Q I rx ry ⟨_, _, rfl, rfl, h.flat (by exact rfl)⟩
theorem opD_le : OpR X (compareOp .LtE) (rD X.K .le) := by
  intro pins s σ H x y v u Q I rx ry h
  obtain ⟨N, dx, dy, hx, hy, h⟩ := h
  cases dx <;> cases dy <;> first | exact False.elim h | skip
  cases hx; cases hy
  exact op_le pins s σ H _ _ v u Q I rx ry ⟨_, _, rfl, rfl, h.flat (by exact rfl)⟩
theorem opD_gt : OpR X (compareOp .Gt) (rD X.K .gt) := by
  intro pins s σ H x y v u Q I rx ry h
  obtain ⟨N, dx, dy, hx, hy, h⟩ := h
  cases dx <;> cases dy <;> first | exact False.elim h | skip
  cases hx; cases hy
  exact op_gt pins s σ H _ _ v u Q I rx ry ⟨_, _, rfl, rfl, h.flat (by exact rfl)⟩
theorem opD_ge : OpR X (compareOp .GtE) (rD X.K .ge) := by
  intro pins s σ H x y v u Q I rx ry h
  obtain ⟨N, dx, dy, hx, hy, h⟩ := h
  cases dx <;> cases dy <;> first | exact False.elim h | skip
  cases hx; cases hy
  exact op_ge pins s σ H _ _ v u Q I rx ry ⟨_, _, rfl, rfl, h.flat (by exact rfl)⟩
theorem opD_eq (hu : X.A.units + 64 < cLine) : OpR X (compareOp .Eq) (rD X.K .eq) := by
  intro pins s σ H x y v u Q I rx ry h
  obtain ⟨N, dx, dy, hx, hy, h⟩ := h
  by_cases c : SeqAt.shaped dx = true ∧ SeqAt.shaped dy = true
  · simp only [ev2, if_pos c] at h
    exact op_eqD hu pins s σ H _ _ v u Q I rx ry ⟨dx, dy, Look.dp (shaped_no c.1) hx, Look.dp (shaped_no c.2) hy, c.1, c.2, h.flat (by exact rfl)⟩
  · simp only [ev2, if_neg c] at h
    exact h.elim
theorem opD_ne (hu : X.A.units + 64 < cLine) : OpR X (compareOp .NotEq) (rD X.K .ne) := by
  intro pins s σ H x y v u Q I rx ry h
  obtain ⟨N, dx, dy, hx, hy, h⟩ := h
  by_cases c : SeqAt.shaped dx = true ∧ SeqAt.shaped dy = true
  · simp only [ev2, if_pos c] at h
    exact op_neD hu pins s σ H _ _ v u Q I rx ry ⟨dx, dy, Look.dp (shaped_no c.1) hx, Look.dp (shaped_no c.2) hy, c.1, c.2, h.flat (by exact rfl)⟩
  · simp only [ev2, if_neg c] at h
    exact h.elim
theorem look_none {K : PySem.W.Frag} {N : Addr → Prop} {H : Hp} {d : D} {x : V} (h : Look K N H d x) : decide (x = .non) = (match d with | .none => true | _ => false) := by
  cases d with
  | none => cases h; rfl
  | bool b => cases h; rfl
  | int b => cases h; rfl
  | str b => cases h; rfl
  | list l => obtain ⟨a, xs, rfl, _⟩ := h; rfl
  | tuple l => obtain ⟨a, xs, rfl, _⟩ := h; rfl
  | dict l => obtain ⟨a, rfl⟩ := h; rfl
theorem opD_isn : OpR X (compareOp .Is) (rD X.K .isn) := by
  intro pins s σ H x y v u Q I rx ry h
  obtain ⟨N, dx, dy, hx, hy, h⟩ := h
  cases dy <;> first | (cases dx <;> exact False.elim h) | skip
  cases hy
  refine op_isN pins s σ H _ _ v u Q I rx ry ⟨rfl, ?_⟩
  rw [look_none hx]
  cases dx <;> exact Pst.flat h (by exact rfl)
theorem opD_isnn : OpR X (compareOp .IsNot) (rD X.K .isnn) := by
  intro pins s σ H x y v u Q I rx ry h
  obtain ⟨N, dx, dy, hx, hy, h⟩ := h
  cases dy <;> first | (cases dx <;> exact False.elim h) | skip
  cases hy
  refine op_notN pins s σ H _ _ v u Q I rx ry ⟨rfl, ?_⟩
  rw [look_none hx]
  cases dx <;> exact Pst.flat h (by exact rfl)
theorem flat_look {K : PySem.W.Frag} {N : Addr → Prop} {H : Hp} {d : D} {x : V} (f : isFlat d = true) (h : Look K N H d x) : Rep K N H d x := by
  cases d <;> first | exact h | exact absurd f Bool.false_ne_true
theorem opD_inn : OpR X (compareOp .In) (rD X.K .inn) := by
  intro pins s σ H x y v u Q I rx ry h
  obtain ⟨N, dx, dy, hx, hy, h⟩ := h
  cases dy <;> first | (cases dx <;> exact False.elim h) | skip
  · rename_i l
    obtain ⟨q, ys, rfl, sy, ty⟩ := hy
    by_cases c : isFlat dx = true ∧ l.all isFlat = true
    · have h : Pst X.K N H (.bool (inD dx l)) Q := by cases dx <;> (simp only [ev2, if_pos c] at h; exact h)
      have rx' := flat_look c.1 hx
      refine op_in_seq pins s σ H _ _ v u Q I rx ry ⟨q, ys, rfl, .inl sy, flat_v rx' c.1, flat_all ty c.2, ?_⟩
      rw [if_neg Bool.false_ne_true, inV_of rx' c.1 ty c.2]
      exact h.flat (by exact rfl)
    · cases dx <;> (simp only [ev2, if_neg c] at h; exact h.elim)
  · rename_i l
    obtain ⟨q, ys, rfl, sy, ty⟩ := hy
    rw [reps_all] at ty
    by_cases c : isFlat dx = true ∧ l.all isFlat = true
    · have h : Pst X.K N H (.bool (inD dx l)) Q := by cases dx <;> (simp only [ev2, if_pos c] at h; exact h)
      have rx' := flat_look c.1 hx
      refine op_in_seq pins s σ H _ _ v u Q I rx ry ⟨q, ys, rfl, .inr sy, flat_v rx' c.1, flat_all ty c.2, ?_⟩
      rw [if_neg Bool.false_ne_true, inV_of rx' c.1 ty c.2]
      exact h.flat (by exact rfl)
    · cases dx <;> (simp only [ev2, if_neg c] at h; exact h.elim)
theorem opD_nin : OpR X (compareOp .NotIn) (rD X.K .nin) := by
  intro pins s σ H x y v u Q I rx ry h
  obtain ⟨N, dx, dy, hx, hy, h⟩ := h
  cases dy <;> first | (cases dx <;> exact False.elim h) | skip
  · rename_i l
    obtain ⟨q, ys, rfl, sy, ty⟩ := hy
    by_cases c : isFlat dx = true ∧ l.all isFlat = true
    · have h : Pst X.K N H (.bool (!inD dx l)) Q := by cases dx <;> (simp only [ev2, if_pos c] at h; exact h)
      have rx' := flat_look c.1 hx
      refine op_notIn_seq pins s σ H _ _ v u Q I rx ry ⟨q, ys, rfl, .inl sy, flat_v rx' c.1, flat_all ty c.2, ?_⟩
      rw [if_pos rfl, inV_of rx' c.1 ty c.2]
      exact h.flat (by exact rfl)
    · cases dx <;> (simp only [ev2, if_neg c] at h; exact h.elim)
  · rename_i l
    obtain ⟨q, ys, rfl, sy, ty⟩ := hy
    rw [reps_all] at ty
    by_cases c : isFlat dx = true ∧ l.all isFlat = true
    · have h : Pst X.K N H (.bool (!inD dx l)) Q := by cases dx <;> (simp only [ev2, if_pos c] at h; exact h)
      have rx' := flat_look c.1 hx
      refine op_notIn_seq pins s σ H _ _ v u Q I rx ry ⟨q, ys, rfl, .inr sy, flat_v rx' c.1, flat_all ty c.2, ?_⟩
      rw [if_pos rfl, inV_of rx' c.1 ty c.2]
      exact h.flat (by exact rfl)
    · cases dx <;> (simp only [ev2, if_neg c] at h; exact h.elim)

/-! ### places, slices -/
theorem atI_of {K : PySem.W.Frag} {N : Addr → Prop} {H : Hp} {R : D → V → Prop} {ds : List D} {xs : List V} {i : Int} {d : D} (t : All2 R ds xs) (e : atI ds i = some d) : ∃ x, atI xs i = some x ∧ R d x := by
  unfold atI at e ⊢
  rw [← t.length]
  cases q : ixN ds.length i with
  | none => rw [q] at e; cases e
  | some j =>
    rw [q] at e
    exact t.get e
def rSubD (K : PySem.W.Frag) : R2 := fun x y H Q => ∃ N dx dy, Look K N H dx x ∧ Rep K N H dy y ∧ (evSub dx dy).sat fun z => ∀ w, Rep K N H z w → Q w H
theorem ixD : IxR X (rSubD X.K) := by
  intro value slice pins s σ H x y v u Q I rx ry h hs
  obtain ⟨N, dx, dy, hx, hy, h⟩ := h
  cases dx <;> cases dy <;> first | exact False.elim h | skip
  · rename_i l i
    obtain ⟨q, ys, rfl, sy, ty⟩ := hx
    cases hy
    cases e : atI l i with
    | none => simp only [evSub, e] at h; exact h.elim
    | some d =>
      simp only [evSub, e] at h
      obtain ⟨z, e2, r⟩ := atI_of (K := X.K) (N := N) (H := H) ty e
      exact ix_list value slice pins s σ H _ _ v u Q I rx ry ⟨q, ys, i, z, rfl, rfl, sy, e2, h z r⟩ hs
  · rename_i l i
    obtain ⟨q, ys, rfl, sy, ty⟩ := hx
    rw [reps_all] at ty
    cases hy
    cases e : atI l i with
    | none => simp only [evSub, e] at h; exact h.elim
    | some d =>
      simp only [evSub, e] at h
      obtain ⟨z, e2, r⟩ := atI_of (K := X.K) (N := N) (H := H) ty e
      exact ix_tup value slice pins s σ H _ _ v u Q I rx ry ⟨q, ys, i, z, rfl, rfl, sy, e2, h z r⟩ hs
theorem cut_all {R : D → V → Prop} {ds : List D} {xs : List V} (t : All2 R ds xs) (lo hi : Option Int) : All2 R (cutD ds lo hi) (cutV xs lo hi) := by
  unfold cutD cutV
  rw [t.length]
  exact (t.drop _).take _
def rSlcD (K : PySem.W.Frag) : V → Option Int → Option Int → Hp → VK → Prop := fun x lo hi H Q => ∃ N dx, Look K N H dx x ∧ (evSlc dx lo hi).sat fun z => Pst K N H z Q
theorem cut_whole {l : List D} {lo hi : Option Int} (h : HT.sIx l.length 0 lo = 0 ∧ HT.sIx l.length l.length hi = l.length) : cutD l lo hi = l := by
  unfold cutD
  rw [h.1, h.2]
  simp
theorem slD : SlR X (rSlcD X.K) := by
  intro pins s σ H x v vl vu lo hi sl Q I rx hs pl pu h
  obtain ⟨N, dx, hx, h⟩ := h
  cases dx <;> first | exact False.elim h | skip
  · rename_i l
    obtain ⟨q, ys, rfl, sy, ty⟩ := hx
    exact sl_list pins s σ H _ v vl vu lo hi sl Q I rx hs pl pu ⟨q, ys, rfl, sy, fun p hp => h _ _ _ (.lst hp (cut_all ty lo hi))⟩
  · rename_i l
    obtain ⟨q, ys, rfl, sy, ty⟩ := hx
    have ty2 := reps_all.mp ty
    have e := ty2.length
    refine sl_tupA pins s σ H _ v vl vu lo hi sl Q I rx hs pl pu ⟨q, ys, rfl, sy, fun w => ?_, fun _ p hp => h _ _ _ (.tup hp (cut_all ty2 lo hi))⟩
    rw [← e] at w
    have h' : Pst X.K N H (.tuple (cutD l lo hi)) Q := h
    rw [cut_whole w] at h'
    exact h'.flat ⟨q, ys, rfl, sy, ty⟩

/-! ### built-ins -/
/-- a call of a built-in, as data -/
def rB (K : PySem.W.Frag) (b : Blt) : List V → Hp → VK → Prop := fun vs H Q => ∃ N ds, All2 (Look K N H) ds vs ∧ (evBlt b ds).sat fun z => Pst K N H z Q
theorem all2_one {R : D → V → Prop} {d : D} {vs : List V} (h : All2 R [d] vs) : ∃ x, vs = [x] ∧ R d x := by
  obtain ⟨x, xs, rfl, r, t⟩ := h
  cases t
  exact ⟨x, rfl, r⟩
theorem all2_two {R : D → V → Prop} {d e : D} {vs : List V} (h : All2 R [d, e] vs) : ∃ x y, vs = [x, y] ∧ R d x ∧ R e y := by
  obtain ⟨x, xs, rfl, r, t⟩ := h
  obtain ⟨y, rfl, r2⟩ := all2_one t
  exact ⟨x, y, rfl, r, r2⟩
theorem crD_len : CallR X (.builtin "len") (rB X.K .len) := by
  intro pins s σ H vs us Q I r h
  obtain ⟨N, ds, t, h⟩ := h
  rcases ds with _ | ⟨d, _ | ⟨d2, ds⟩⟩
  · exact False.elim h
  · obtain ⟨x, rfl, hx⟩ := all2_one t
    cases d <;> first | exact False.elim h | skip
    · obtain ⟨p, xs, rfl, sx, tx⟩ := hx
      exact call_len_seq pins s σ H _ us Q I r ⟨p, xs, rfl, .inl sx, h.flat (by rw [← tx.length]; exact rfl)⟩
    · obtain ⟨p, xs, rfl, sx, tx⟩ := hx
      rw [reps_all] at tx
      exact call_len_seq pins s σ H _ us Q I r ⟨p, xs, rfl, .inr sx, h.flat (by rw [← tx.length]; exact rfl)⟩
  · cases d <;> exact False.elim h
theorem crD_tupl : CallR X (.type "tuple") (rB X.K .tupl) := by
  intro pins s σ H vs us Q I r h
  obtain ⟨N, ds, t, h⟩ := h
  rcases ds with _ | ⟨d, _ | ⟨d2, ds⟩⟩
  · exact False.elim h
  · obtain ⟨x, rfl, hx⟩ := all2_one t
    cases d <;> first | exact False.elim h | skip
    · obtain ⟨p, xs, rfl, sx, tx⟩ := hx
      exact call_tuple_of pins s σ H _ us Q I r ⟨p, xs, rfl, .inl ⟨sx, fun l hl => h _ _ _ (.tup hl tx)⟩⟩
    · obtain ⟨p, xs, rfl, sx, tx⟩ := hx
      exact call_tuple_of pins s σ H _ us Q I r ⟨p, xs, rfl, .inr ⟨sx, h.flat ⟨p, xs, rfl, sx, tx⟩⟩⟩
  · cases d <;> exact False.elim h
theorem crD_list : CallR X (.type "list") (rB X.K .list) := by
  intro pins s σ H vs us Q I r h
  obtain ⟨N, ds, t, h⟩ := h
  rcases ds with _ | ⟨d, _ | ⟨d2, ds⟩⟩
  · exact False.elim h
  · obtain ⟨x, rfl, hx⟩ := all2_one t
    cases d <;> first | exact False.elim h | skip
    · obtain ⟨p, xs, rfl, sx, tx⟩ := hx
      exact call_list_of pins s σ H _ us Q I r ⟨p, xs, rfl, .inl sx, fun l hl => h _ _ _ (.lst hl tx)⟩
    · obtain ⟨p, xs, rfl, sx, tx⟩ := hx
      rw [reps_all] at tx
      exact call_list_of pins s σ H _ us Q I r ⟨p, xs, rfl, .inr sx, fun l hl => h _ _ _ (.lst hl tx)⟩
  · cases d <;> exact False.elim h
theorem crD_all (hc : X.calm = true) : CallR X (.builtin "all") (rB X.K .all) := by
  intro pins s σ H vs us Q I r h
  obtain ⟨N, ds, t, h⟩ := h
  rcases ds with _ | ⟨d, _ | ⟨d2, ds⟩⟩
  · exact False.elim h
  · obtain ⟨x, rfl, hx⟩ := all2_one t
    cases d <;> first | exact False.elim h | skip
    rename_i l
    obtain ⟨p, xs, rfl, sx, tx⟩ := hx
    cases e : boolsOf l with
    | none => simp only [evBlt, e] at h; exact h.elim
    | some bs =>
      simp only [evBlt, e] at h
      rw [bools_v tx e] at sx
      exact cr_all hc pins s σ H _ us Q I r ⟨p, bs, rfl, sx, h.flat (by exact rfl)⟩
  · cases d <;> exact False.elim h
theorem crD_any (hc : X.calm = true) : CallR X (.builtin "any") (rB X.K .any) := by
  intro pins s σ H vs us Q I r h
  obtain ⟨N, ds, t, h⟩ := h
  rcases ds with _ | ⟨d, _ | ⟨d2, ds⟩⟩
  · exact False.elim h
  · obtain ⟨x, rfl, hx⟩ := all2_one t
    cases d <;> first | exact False.elim h | skip
    rename_i l
    obtain ⟨p, xs, rfl, sx, tx⟩ := hx
    cases e : boolsOf l with
    | none => simp only [evBlt, e] at h; exact h.elim
    | some bs =>
      simp only [evBlt, e] at h
      rw [bools_v tx e] at sx
      exact cr_any hc pins s σ H _ us Q I r ⟨p, bs, rfl, sx, h.flat (by exact rfl)⟩
  · cases d <;> exact False.elim h
theorem crD_sum (hc : X.calm = true) : CallR X (.builtin "sum") (rB X.K .sum) := by
  intro pins s σ H vs us Q I r h
  obtain ⟨N, ds, t, h⟩ := h
  rcases ds with _ | ⟨d, _ | ⟨d2, ds⟩⟩
  · exact False.elim h
  · obtain ⟨x, rfl, hx⟩ := all2_one t
    cases d <;> first | exact False.elim h | skip
    rename_i l
    obtain ⟨p, xs, rfl, sx, tx⟩ := hx
    cases e : intsOf l with
    | none => simp only [evBlt, e] at h; exact h.elim
    | some bs =>
      simp only [evBlt, e] at h
      rw [ints_v tx e] at sx
      exact cr_sum hc pins s σ H _ us Q I r ⟨p, bs, rfl, sx, h.flat (by exact rfl)⟩
  · cases d <;> exact False.elim h
theorem crD_int : CallR X (.type "int") (rB X.K .int) := by
  intro pins s σ H vs us Q I r h
  obtain ⟨N, ds, t, h⟩ := h
  rcases ds with _ | ⟨d, _ | ⟨d2, ds⟩⟩
  · exact False.elim h
  · obtain ⟨x, rfl, hx⟩ := all2_one t
    cases d <;> first | exact False.elim h | skip
    · cases hx
      exact call_int1 pins s σ H _ us Q I r (.inr ⟨_, rfl, h.flat (by exact rfl)⟩)
    · cases hx
      exact call_int1 pins s σ H _ us Q I r (.inl ⟨_, rfl, h.flat (by exact rfl)⟩)
  · cases d <;> exact False.elim h
theorem crD_abs : CallR X (.builtin "abs") (rB X.K .abs) := by
  intro pins s σ H vs us Q I r h
  obtain ⟨N, ds, t, h⟩ := h
  rcases ds with _ | ⟨d, _ | ⟨d2, ds⟩⟩
  · exact False.elim h
  · obtain ⟨x, rfl, hx⟩ := all2_one t
    cases d <;> first | exact False.elim h | skip
    cases hx
    exact call_abs pins s σ H _ us Q I r ⟨_, rfl, h.flat (by exact rfl)⟩
  · cases d <;> exact False.elim h
theorem crD_max2 (hc : X.calm = true) : CallR X (.builtin "max") (rB X.K .max2) := by
  intro pins s σ H vs us Q I r h
  obtain ⟨N, ds, t, h⟩ := h
  rcases ds with _ | ⟨d, _ | ⟨d2, _ | ⟨d3, ds⟩⟩⟩
  · exact False.elim h
  · cases d <;> exact False.elim h
  · obtain ⟨x, y, rfl, hx, hy⟩ := all2_two t
    cases d <;> cases d2 <;> first | exact False.elim h | skip
    cases hx; cases hy
    exact call_max2 hc pins s σ H _ us Q I r ⟨_, _, rfl, h.flat (by exact rfl)⟩
  · cases d <;> cases d2 <;> exact False.elim h
theorem crD_min2 (hc : X.calm = true) : CallR X (.builtin "min") (rB X.K .min2) := by
  intro pins s σ H vs us Q I r h
  obtain ⟨N, ds, t, h⟩ := h
  rcases ds with _ | ⟨d, _ | ⟨d2, _ | ⟨d3, ds⟩⟩⟩
  · exact False.elim h
  · cases d <;> exact False.elim h
  · obtain ⟨x, y, rfl, hx, hy⟩ := all2_two t
    cases d <;> cases d2 <;> first | exact False.elim h | skip
    cases hx; cases hy
    exact call_min2 hc pins s σ H _ us Q I r ⟨_, _, rfl, h.flat (by exact rfl)⟩
  · cases d <;> cases d2 <;> exact False.elim h
theorem crD_gcd : CallR X (.builtin "math.gcd") (rB X.K .gcd) := by
  intro pins s σ H vs us Q I r h
  obtain ⟨N, ds, t, h⟩ := h
  rcases ds with _ | ⟨d, _ | ⟨d2, _ | ⟨d3, ds⟩⟩⟩
  · exact False.elim h
  · cases d <;> exact False.elim h
  · obtain ⟨x, y, rfl, hx, hy⟩ := all2_two t
    cases d <;> cases d2 <;> first | exact False.elim h | skip
    cases hx; cases hy
    exact cr_gcd pins s σ H _ us Q I r ⟨_, _, rfl, h.flat (by exact rfl)⟩
  · cases d <;> cases d2 <;> exact False.elim h
theorem crD_repr (hu : X.A.units + 64 < cLine) (hg : X.A.guards = some []) : CallR X (.builtin "repr") (rB X.K .repr) := by
  intro pins s σ H vs us Q I r h
  obtain ⟨N, ds, t, h⟩ := h
  rcases ds with _ | ⟨d, _ | ⟨d2, ds⟩⟩
  · exact False.elim h
  · obtain ⟨x, rfl, hx⟩ := all2_one t
    obtain ⟨u, rfl, rx⟩ := vals1 r
    have h : (evRepr d).sat fun z => Pst X.K N H z Q := h
    unfold evRepr at h
    by_cases c : d.showable = true ∧ d.hasDict = false ∧ d.depth ≤ 40 ∧ d.shown.length ≤ LIM
    · rw [if_pos c] at h
      obtain ⟨c1, c2, c3, c4⟩ := c
      have q : ∀ (h' : Heap) (t tk : Tok), (∀ b o, s.heap.get? b = some o → h'.get? b = some o) → EP X pins σ Q (.str d.shown t) { s with heap := h', toks := tk } := fun h' t tk k =>
        ⟨.str d.shown, H, I.kept k, ⟨t, rfl⟩, Pst.flat h (by exact rfl)⟩
      have hz := lim_line c4
      cases d with
      | none => cases hx; cases rx; exact PySem.P.repr_of_none (q s.heap _ _ fun _ _ e => e)
      | bool b => cases hx; cases rx; exact PySem.P.repr_of_bool (q s.heap _ _ fun _ _ e => e)
      | int i =>
        cases hx
        obtain ⟨t, rfl⟩ := rx
        exact PySem.P.repr_of_int (of_decide_eq_true c1) (q s.heap _ _ fun _ _ e => e)
      | str y =>
        cases hx
        obtain ⟨t, rfl⟩ := rx
        exact PySem.P.repr_of_str (q s.heap _ _ fun _ _ e => e) hz
      | dict l => exact absurd c2 (by simp [PyData.hasDict])
      | list l =>
        have dp := Look.dp (by simp) hx
        obtain ⟨p, xs, rfl, _⟩ := hx
        cases rx
        obtain ⟨as, rd⟩ := Dp.reads I _ _ _ dp (show RelV (.ref p) (.ref p) from rfl)
        exact repr_of_reads' rd c1 (PyData.noDict_hsm c2) hg (by omega) (fun _ _ e => e) q hz
      | tuple l =>
        have dp := Look.dp (by simp) hx
        obtain ⟨p, xs, rfl, _⟩ := hx
        cases rx
        obtain ⟨as, rd⟩ := Dp.reads I _ _ _ dp (show RelV (.ref p) (.ref p) from rfl)
        exact repr_of_reads' rd c1 (PyData.noDict_hsm c2) hg (by omega) (fun _ _ e => e) q hz
    · rw [if_neg c] at h
      exact h.elim
  · exact False.elim h

/-! ### sorted, isinstance -/
theorem allAlike_of {l : List D} (h : allAlike l = true) : PySem.W.AllAlike (l.map id) := by
  rw [List.map_id]
  intro a ha b hb
  unfold allAlike at h
  rw [List.all_eq_true] at h
  have := h a ha
  rw [List.all_eq_true] at this
  exact this b hb
theorem sortable_of {l : List D} (h : sortable l = true) : PySem.W.Sortable (l.map id) := by
  rw [List.map_id]
  unfold sortable at h
  rw [Bool.or_eq_true, List.all_eq_true, List.all_eq_true] at h
  rcases h with h | h
  · refine .inl fun d hd => ?_
    have q := h d hd
    cases d with
    | tuple l =>
      cases l with
      | nil => cases q
      | cons x r => exact ⟨x, r, rfl⟩
    | _ => cases q
  · refine .inr fun d hd => ?_
    have q := h d hd
    cases d with
    | none => cases q
    | tuple l => cases q
    | _ => exact ⟨by simp, by simp⟩
theorem each_of {K : PySem.W.Frag} {N : Addr → Prop} {H : Hp} : ∀ {ds : List D} {xs : List V} {us : List Value}, All2 (Rep K N H) ds xs → Vals xs us → PySem.W.EachIs (fun u d => ∃ x, RelV x u ∧ Rep K N H d x) us ds
  | [], _, _, h, v => by
    cases h
    cases v
    exact .nil
  | d :: ds, _, _, ⟨x, xs, e, r, t⟩, v => by
    subst e
    cases v with
    | cons rv tv => exact .cons ⟨x, rv, r⟩ (each_of t tv)
theorem of_each {K : PySem.W.Frag} {N : Addr → Prop} {H : Hp} : ∀ {ds : List D} {us : List Value}, PySem.W.EachIs (fun u d => ∃ x, RelV x u ∧ Rep K N H d x) us ds → ∃ xs, Vals xs us ∧ All2 (Rep K N H) ds xs
  | _, _, .nil => ⟨[], .nil, rfl⟩
  | _, _, .cons ⟨x, rv, r⟩ t => by
    obtain ⟨xs, h1, h2⟩ := of_each t
    exact ⟨x :: xs, .cons rv h1, x, xs, rfl, r, h2⟩
theorem crD_sort (hu : X.A.units + 64 < cLine) : CallR X (.builtin "sorted") (rB X.K .sort) := by
  intro pins s σ H vs us Q I r h
  obtain ⟨N, ds, t, h⟩ := h
  rcases ds with _ | ⟨d, _ | ⟨d2, ds⟩⟩
  · exact False.elim h
  · obtain ⟨x, rfl, hx⟩ := all2_one t
    cases d <;> first | exact False.elim h | skip
    rename_i l
    have h : (evSort (.list l)).sat fun z => Pst X.K N H z Q := h
    unfold evSort at h
    by_cases c : allAlike l = true ∧ sortable l = true ∧ shallow l = true
    · simp only [if_pos c] at h
      obtain ⟨c1, c2, c3⟩ := c
      obtain ⟨p, xs, rfl, sx, tx⟩ := hx
      obtain ⟨its, rv, pl, hz⟩ := I.list sx
      rw [Vals.ref1 r]
      have e := each_of tx rv
      have el := tx.length
      refine PySem.W.sorted_data (enc := id) pl.isList e (e.mono fun u d ⟨x, ru, rx⟩ => Dp.reads I _ _ _ (rep_dp d x rx) ru) (allAlike_of c1) (sortable_of c2) (by rw [el]; exact hz) (fun b hb => ?_) fun out ho eo => ?_
      · unfold shallow at c3
        rw [List.all_eq_true] at c3
        have := of_decide_eq_true (c3 b hb)
        show _ + 2 + b.depth < _
        omega
      · obtain ⟨ys, hv, ha⟩ := of_each eo
        obtain ⟨ep, he'⟩ := PyProof.Rows.sortedAll_at s.heap its (List.toArray out)
        have hlen : ys.length ≤ sizeLine := by
          rw [hv.length, ho, el]
          exact hz
        exact ⟨.ref _, upd H (s.heap.objs.size + 1) (.lst ys), I.laid (t' := s.toks) (fun _ _ => PyProof.Rows.sortedAll_old) (Nat.le_succ _) ⟨hlen, out, ep, hv, he'⟩, rfl, Pst.flat (N := N) (K := X.K) (H := H) (z := .none) (v := .non) (fun _ _ _ _ => h _ _ _ (.lst (I.hok.fresh (Nat.le_succ _)) ha)) (by exact rfl)⟩
    · simp only [if_neg c] at h
      exact h.elim
  · exact False.elim h

theorem kit_all : ∀ a ∈ ["NoneType", "bool", "int", "str", "list", "tuple"], ∀ b ∈ ["int", "bool", "str", "list", "tuple", "dict"], kitB a b = some (isT a b) := by decide +kernel
theorem ty_of {K : PySem.W.Frag} {N : Addr → Prop} {H : Hp} {d : D} {x : V} (c : ∀ l, d ≠ .dict l) (h : Look K N H d x) : TyX K H x (.type (pyTy d)) ∧ pyTy d ∈ ["NoneType", "bool", "int", "str", "list", "tuple"] := by
  cases d with
  | none => cases h; exact ⟨.base .non, by simp [pyTy]⟩
  | bool b => cases h; exact ⟨.base (.bl b), by simp [pyTy]⟩
  | int i => cases h; exact ⟨.base (.int i), by simp [pyTy]⟩
  | str y => cases h; exact ⟨.base (.str y), by simp [pyTy]⟩
  | dict l => exact absurd rfl (c l)
  | list l =>
    obtain ⟨a, xs, rfl, sx, _⟩ := h
    refine ⟨?_, by simp [pyTy]⟩
    rcases sx with (q | ⟨o, q⟩) | ⟨o, its, n, q, c, _⟩
    · exact .base (.lst q)
    · exact .base (.frz q)
    · exact .kList q c
  | tuple l =>
    obtain ⟨a, xs, rfl, sx, _⟩ := h
    refine ⟨?_, by simp [pyTy]⟩
    rcases sx with (q | ⟨o, q⟩) | ⟨o, its, n, q, c, _⟩
    · exact .base (.tup q)
    · exact .fTuple q
    · exact .kTuple q c
theorem isi_one {K : PySem.W.Frag} {d : D} {t : String} (h : pyTy d ∈ ["NoneType", "bool", "int", "str", "list", "tuple"]) (ht : t ∈ ["int", "bool", "str", "list", "tuple", "dict"]) :
    PySem.W.kitOne K (.type (pyTy d)) (.type t) = some (isT (pyTy d) t) := kit_ty (kit_all _ h _ ht)
theorem isi_any {K : PySem.W.Frag} {d : D} (h : pyTy d ∈ ["NoneType", "bool", "int", "str", "list", "tuple"]) : ∀ {ts : List String}, (∀ t ∈ ts, t ∈ ["int", "bool", "str", "list", "tuple", "dict"]) → ts ≠ [] →
    PySem.W.kitAny K (.type (pyTy d)) (ts.map .type) = some (isiD d ts)
  | [], _, n => absurd rfl n
  | [t], k, _ => by
    refine kitAny_cons (isi_one h (k t List.mem_cons_self)) (fun e => ?_) (fun e => ?_)
    · show some false = _
      simp [isiD, e]
    · simp [isiD, e]
  | t :: t2 :: ts, k, _ => by
    have ih := isi_any (K := K) h (ts := t2 :: ts) (fun u hu => k u (List.mem_cons_of_mem _ hu)) (by simp)
    refine kitAny_cons (isi_one h (k t List.mem_cons_self)) (fun e => ?_) (fun e => ?_)
    · rw [ih]
      simp [isiD, e]
    · simp [isiD, e]
/-- isinstance(x, T) -/
theorem crD_isi {t : String} (ht : t ∈ ["int", "bool", "str", "list", "tuple", "dict"]) : CallR X (.builtin "isinstance") (fun vs H Q => ∃ N d x, vs = [x, .ty t] ∧ (∀ l, d ≠ .dict l) ∧ Look X.K N H d x ∧ Q (.bl (isiD d [t])) H) := by
  intro pins s σ H vs us Q I r h
  obtain ⟨N, d, x, rfl, nd, hx, q⟩ := h
  obtain ⟨h1, h2⟩ := ty_of nd hx
  refine call_isi pins s σ H _ us Q I r ⟨x, .ty t, _, _, _, rfl, .ty t, h1, isi_one h2 ht, ?_⟩
  simpa [isiD] using q
theorem cls_tys : ∀ ts : List String, Paired ClsV (ts.map V.ty) (ts.map Value.type)
  | [] => .nil
  | t :: ts => .cons (.ty t) (cls_tys ts)
/-- isinstance(x, (T, ..)) -/
theorem crD_isiT {ts : List String} (ht : ∀ t ∈ ts, t ∈ ["int", "bool", "str", "list", "tuple", "dict"]) (hn : ts ≠ []) : CallR X (.builtin "isinstance") (fun vs H Q => ∃ N d x p, vs = [x, .ref p] ∧ H p = some (.tup (ts.map V.ty)) ∧ (∀ l, d ≠ .dict l) ∧ Look X.K N H d x ∧ Q (.bl (isiD d ts)) H) := by
  intro pins s σ H vs us Q I r h
  obtain ⟨N, d, x, p, rfl, hp, nd, hx, q⟩ := h
  obtain ⟨h1, h2⟩ := ty_of nd hx
  exact call_isiT pins s σ H _ us Q I r ⟨x, p, _, _, _, _, rfl, hp, cls_tys ts, h1, isi_any h2 ht hn, q⟩
end
end Mini

set_option Elab.async false
set_option linter.all false
set_option maxHeartbeats 1000000
/-! Mini: which written text a Mini expression stands for. -/
namespace Mini
open PySem L2 PySem.Spec PyProof.Rows

/-! ### kinds of results, and what an expression touches -/
/-- e n: a value of its own, owned n deep; f: a new flat one; b n: looked at, owned by a place; r i: the object of the place i -/
inductive Kd where
  | e (n : Nat) | f | b (n : Nat) | r (i : Nat)
  deriving DecidableEq
def lessB : Kd → Kd
  | .b (n + 2) => .b (n + 1)
  | _ => .e 0
def kd : ME → Kd
  | .bor n _ => if n = 0 then .e 0 else .b n
  | .iou _ i => .r i
  | .mov n _ => .e n
  | .lst _ => .f
  | .slc _ _ _ => .f
  | .rev _ => .f
  | .op2 .add _ _ => .f
  | .blt .list _ => .f
  | .blt .sort _ => .f
  | .comp _ _ _ _ _ => .f
  | .call _ r _ _ _ _ => .e r
  | .dsp _ _ => .e 2
  | .key a _ => lessB (kd a)
  | _ => .e 0
/-- may stand where a shared value is wanted -/
def isE (m : ME) : Bool := match kd m with | .e 0 => true | .f => true | _ => false
/-- may be looked at -/
def isL (m : ME) : Bool := match kd m with | .e 0 => true | .e 1 => true | .f => true | .b 1 => true | _ => false
/-- may be given to a place that owns it n deep -/
def isF (n : Nat) (m : ME) : Bool := match kd m with | .e k => k == n | .f => n == 1 | _ => false
def iosOf : List (Option (Nat × Nat)) → List Nat
  | [] => []
  | none :: r => iosOf r
  | some p :: r => p.2 :: iosOf r
/-- the places that a run may change -/
def eff : ME → List Nat
  | .frz i => [i]
  | .mov _ i => [i]
  | .pop _ i _ => [i]
  | .flat a => eff a
  | .op1 _ a => eff a
  | .op2 _ a b => eff a ++ eff b
  | .chn _ _ a b c => eff a ++ eff b ++ eff c
  | .and a b => eff a ++ eff b
  | .or a b => eff a ++ eff b
  | .ife c a b => eff c ++ eff a ++ eff b
  | .tup es => eff es
  | .lst es => eff es
  | .cons a b => eff a ++ eff b
  | .sub a b => eff a ++ eff b
  | .key a _ => eff a
  | .slc a b c => eff a ++ eff b ++ eff c
  | .rev a => eff a
  | .blt _ es => eff es
  | .call _ _ io es ks _ => eff es ++ eff ks ++ iosOf io
  | .comp own _ it c e => eff it ++ own.map (·.2) ++ eff c ++ eff e
  | .val a => eff a
  | .rng1 a => eff a
  | .rng2 a b => eff a ++ eff b
  | .zip a b => eff a ++ eff b
  | .enm a => eff a
  | .dsp _ es => eff es
  | _ => []

/-- the place that a walk looks at -/
def bsl : ME → List Nat
  | .val (.bor n i) => if n = 0 then [] else [i]
  | _ => []

/-! ### the checker -/
structure CkP where
  P : Nat → Option Df
  GC : List (Str × Int)
  gcd : Bool
inductive Syn where
  | e (x : Expr) | a (xs : List Expr) | it (tg x : Expr)
def visB (sc : Scope) (x : Str) : Bool := match sc.names.lookup x with
  | some .local => true
  | some .cell => true
  | some .free => true
  | _ => false
def nmB (N : List Str) (sc : Scope) (i : Nat) (x : Str) : Bool := decide (N[i]? = some x) && visB sc x && !(x == ("__debug__" : Str)) && !(x == ("__classdict__" : Str))
def glB (sc : Scope) (x : Str) : Bool := (match sc.names.lookup x with | some .globalImplicit => true | _ => false) && !(x == ("__debug__" : Str)) && decide (x ≠ "__name__")
def cstB : D → Const → Bool
  | .none, .none => true
  | .bool a, .bool b => a == b
  | .int a, .int b => a == b
  | .str a, .str b => decide (a = b)
  | _, _ => false
def binB : Op2 → Operator → Bool
  | .add, .Add => true
  | .sub, .Sub => true
  | .mul, .Mult => true
  | .fdv, .FloorDiv => true
  | .mod, .Mod => true
  | .pow, .Pow => true
  | _, _ => false
def cmpB : Op2 → CmpOp → Bool
  | .eq, .Eq => true
  | .ne, .NotEq => true
  | .lt, .Lt => true
  | .le, .LtE => true
  | .gt, .Gt => true
  | .ge, .GtE => true
  | .isn, .Is => true
  | .isnn, .IsNot => true
  | .inn, .In => true
  | .nin, .NotIn => true
  | _, _ => false
def plainC : Op2 → Bool
  | .lt => true
  | .le => true
  | .gt => true
  | .ge => true
  | .eq => true
  | .ne => true
  | _ => false
/-- the built-ins by name: their values -/
def bltV : Blt → Option (Str × Value)
  | .len => some ("len", .builtin "len")
  | .tupl => some ("tuple", .type "tuple")
  | .list => some ("list", .type "list")
  | .all => some ("all", .builtin "all")
  | .any => some ("any", .builtin "any")
  | .int => some ("int", .type "int")
  | .sum => some ("sum", .builtin "sum")
  | .sort => some ("sorted", .builtin "sorted")
  | .abs => some ("abs", .builtin "abs")
  | .max2 => some ("max", .builtin "max")
  | .min2 => some ("min", .builtin "min")
  | .repr => some ("repr", .builtin "repr")
  | _ => none
def bltNames : List Str := ["len", "tuple", "list", "all", "any", "int", "sum", "sorted", "abs", "max", "min", "repr", "isinstance", "range", "zip", "enumerate", "bool", "str", "dict"]
def tyNames : List String := ["int", "bool", "str", "list", "tuple", "dict"]
def ckTy (sc : Scope) (t : String) : Expr → Bool
  | .Name y _ => decide (y = Str.ofString t) && glB sc y && tyNames.contains t
  | _ => false
def ckTys (sc : Scope) : List String → List Expr → Bool
  | [], [] => true
  | t :: ts, x :: xs => ckTy sc t x && ckTys sc ts xs
  | _, _ => false
/-- a place that a frame may store to: blk, within a comprehension's block -/
def stB (blk : Bool) (sc : Scope) (x : Str) : Bool := match sc.names.lookup x with
  | some .local => true
  | some .cell => !blk
  | _ => false
def star : Expr → Bool
  | .Starred _ _ => true
  | _ => false
/-- a target is well formed: as one, as a chain -/
def okT : Tgt → Bool × Bool
  | .nm _ => (true, false)
  | .tup ts => ((okT ts).2, false)
  | .nil => (false, true)
  | .cons t ts => (false, (okT t).1 && (okT ts).2)
def ckT (blk : Bool) (N : List Str) (sc : Scope) : Tgt → List Expr → Bool
  | .nm i, [.Name x _] => decide (N[i]? = some x) && stB blk sc x
  | .tup ts, [.Tuple xs _ _] => ckT blk N sc ts xs
  | .nil, [] => true
  | .cons t ts, x :: xs => !star x && (ckT blk N sc t [x] && ckT blk N sc ts xs)
  | _, _ => false
def listM : ME → List ME
  | .cons e es => e :: listM es
  | _ => []
def iouB (n i : Nat) : ME → Bool
  | .iou k j => k == n && j == i
  | _ => false
def ioOk : List (Option (Nat × Nat)) → List ME → Bool
  | [], [] => true
  | none :: r, m :: es => isE m && ioOk r es
  | some (n, i) :: r, m :: es => iouB n i m && n != 0 && ioOk r es
  | _, _ => false
def ioLv : Option (Nat × Nat) → Nat
  | some (n, _) => n
  | none => 0
/-- the items of a display: shared values -/
def allE : ME → Bool
  | .nil => true
  | .cons m es => isE m && allE es
  | _ => false
/-- looked-at items, the last one perhaps owned -/
def allL : ME → Bool
  | .nil => true
  | .cons m .nil => isL m
  | .cons m es => isE m && allL es
  | _ => false
/-- a dict's values: flat, or new flat lists -/
def allD : ME → Bool
  | .nil => true
  | .cons m es => (isFlatM m || (match kd m with | .f => true | _ => false)) && allD es
  | _ => false
def lenM : ME → Nat
  | .cons _ es => lenM es + 1
  | _ => 0
/-- a and b side by side: a may be looked at only if b changes nothing -/
def sideB (a b : ME) : Bool := isE a || (isL a && (eff b).isEmpty)
def strKeys : List Str → List (Option Expr) → Bool
  | [], [] => true
  | k :: ks, some (.Constant (.str x) _ _) :: r => decide (k = x) && strKeys ks r
  | _, _ => false
def nodupS : List Str → Bool
  | [] => true
  | x :: r => !(r.any fun y => decide (y = x)) && nodupS r
/-- the keywords: names and values -/
def kwNames : List Keyword → Option (List Str)
  | [] => some []
  | ⟨none, _, _⟩ :: _ => none
  | ⟨some x, _, _⟩ :: ks => (kwNames ks).map (x :: ·)
def kwVals : List Keyword → List Expr
  | [] => []
  | ⟨_, v, _⟩ :: ks => v :: kwVals ks
/-- a checker of a part -/
abbrev CkF := Scope → Syn → Bool
def ckNm (N : List Str) (i : Nat) : CkF
  | sc, .e (.Name x _) => nmB N sc i x
  | _, _ => false
def ckCst (d : D) : CkF
  | _, .e (.Constant c _ _) => cstB d c
  | _, _ => false
def ckGlb (C : CkP) (x : Str) (n : Int) : CkF
  | sc, .e (.Name y _) => decide (x = y) && (glB sc y && C.GC.contains (x, n))
  | _, _ => false
def ckFlat (a : ME) (ca : CkF) : CkF
  | sc, .e x => ca sc (.e x) && isL a
  | _, _ => false
def ckOp1 (o : Op1) (a : ME) (ca : CkF) : CkF
  | sc, .e (.UnaryOp .USub x _) => decide (o = .neg) && (ca sc (.e x) && isE a)
  | sc, .e (.UnaryOp .Not x _) => decide (o = .not) && (ca sc (.e x) && isL a)
  | _, _ => false
def ckOp2 (o : Op2) (a b : ME) (ca cb : CkF) : CkF
  | sc, .e (.BinOp x op y _) => binB o op && (ca sc (.e x) && (cb sc (.e y) && (sideB a b && isL b)))
  | sc, .e (.Compare x [op] [y] _) => cmpB o op && (!behindInMarks op y && (ca sc (.e x) && (cb sc (.e y) && (sideB a b && isL b))))
  | _, _ => false
def ckChn (o o' : Op2) (a b c : ME) (ca cb cc : CkF) : CkF
  | sc, .e (.Compare x [op, op'] [y, z] _) => cmpB o op && (cmpB o' op' && ((plainC o && plainC o') && (!lastMarks [op, op'] [y, z] && (ca sc (.e x) && (cb sc (.e y) && (cc sc (.e z) && (isE a && (isE b && isE c))))))))
  | _, _ => false
def ckRest (k : BoolOp) (cb : CkF) (sc : Scope) (y : Expr) (p : Pos) : List Expr → Bool
  | [] => cb sc (.e y)
  | z :: r => cb sc (.e (.BoolOp k (y :: z :: r) p))
def ckBool (k : BoolOp) (a b : ME) (ca cb : CkF) : CkF
  | sc, .e (.BoolOp op (x :: y :: r) p) => decide (op = k) && (isE a && (isE b && (ca sc (.e x) && ckRest k cb sc y p r)))
  | _, _ => false
def ckIfe (a b c : ME) (ca cb cc : CkF) : CkF
  | sc, .e (.IfExp z x y _) => isE a && (isE b && (isL c && (cc sc (.e z) && (ca sc (.e x) && cb sc (.e y)))))
  | _, _ => false
def ckTup (es : ME) (ce : CkF) : CkF
  | sc, .e (.Tuple xs _ _) => ce sc (.a xs) && (allE es && decide (lenM es ≤ LIM))
  | _, _ => false
def ckLst (es : ME) (ce : CkF) : CkF
  | sc, .e (.List xs _) => ce sc (.a xs) && (allE es && decide (lenM es ≤ LIM))
  | _, _ => false
def ckNil : CkF
  | _, .a [] => true
  | _, _ => false
def notB (m es : ME) : Bool := match kd m with
  | .b _ => (eff es).isEmpty
  | _ => true
def ckCons (m es : ME) (cm cs : CkF) : CkF
  | sc, .a (x :: xs) => !star x && (cm sc (.e x) && (cs sc (.a xs) && notB m es))
  | _, _ => false
def isSlice : Expr → Bool
  | .Slice _ _ _ _ => true
  | _ => false
def ckSub (a b : ME) (ca cb : CkF) : CkF
  | sc, .e (.Subscript x y _) => ca sc (.e x) && (cb sc (.e y) && (sideB a b && (isE b && !isSlice y)))
  | _, _ => false
def isBk (a : ME) : Bool := match kd a with
  | .b _ => true
  | _ => false
def ckKey (a : ME) (k : Str) (ca : CkF) : CkF
  | sc, .e (.Subscript x (.Constant (.str s) _ _) _) => ca sc (.e x) && (decide (k = s) && isBk a)
  | _, _ => false
def ckPart (m : ME) (cm : CkF) (sc : Scope) : Option Expr → Bool
  | none => (match m with | .nop => true | _ => false)
  | some y => cm sc (.e y) && isE m
def ckSlc (a lo hi : ME) (ca cl ch : CkF) : CkF
  | sc, .e (.Subscript x (.Slice l h none _) _) => ca sc (.e x) && (sideB a lo && (sideB a hi && (ckPart lo cl sc l && ckPart hi ch sc h)))
  | _, _ => false
def ckRev (a : ME) (ca : CkF) : CkF
  | sc, .e (.Subscript x (.Slice none none (some (.UnaryOp .USub (.Constant (.int 1) _ _) _)) _) _) => ca sc (.e x) && isL a
  | _, _ => false
def ckIsiT (ts : List String) (sc : Scope) : Expr → Bool
  | .Name z q => (match ts with | [t] => ckTy sc t (.Name z q) | _ => false)
  | .Tuple ys _ _ => !ts.isEmpty && (decide (ts.length ≤ 100) && (ts.length != 1 && ckTys sc ts ys))
  | _ => false
def ckIsi (ts : List String) (m : ME) (cm : CkF) : CkF
  | sc, .e (.Call (.Name f _) [x, y] [] _) => decide (f = "isinstance") && (glB sc f && (!star x && (cm sc (.e x) && (isE m && ckIsiT ts sc y))))
  | _, _ => false
def ckBlt (g : Bool) (b : Blt) (es : ME) (ce : CkF) : CkF
  | sc, .e (.Call (.Name f _) (x :: xs) [] _) => (match b with | .gcd => g && decide (f = "gcd") | .isi _ => false | b => (match bltV b with | some (y, _) => decide (f = y) | none => false)) && (glB sc f && (ce sc (.a (x :: xs)) && allL es))
  | _, _ => false
def plainKw : List Keyword → Bool
  | [] => true
  | ⟨some _, v, _⟩ :: ks => !star v && plainKw ks
  | ⟨none, _, _⟩ :: _ => false
def ckCall (C : CkP) (f r : Nat) (io : List (Option (Nat × Nat))) (es ks : ME) (kw : List Nat) (ce ck' : CkF) : CkF
  | sc, .e (.Call (.Name x _) xs kws _) => (match C.P f with
      | some df => decide (df.nm = x) && (decide (df.ret = r) && (decide (io.length = df.ps.length) && (df.kws.contains (xs.length, (kwNames kws).getD [], kw) && (decide (io.map ioLv = df.ms) && (decide (kw.length = df.ps.length) && decide (xs.length + kws.length = df.ps.length))))))
      | none => false) && (glB sc x && (plainKw kws && (ioOk io (permL (listM es ++ listM ks) kw) && ((listM es).all (fun m => !isBk m) && decide ((iosOf io).Nodup) && (ce sc (.a xs) && ck' sc (.a (kwVals kws)))))))
  | _, _ => false
def ckIfs (c : ME) (cc : CkF) (sc : Scope) : List Expr → Bool
  | [] => (match c with | .cst (.bool true) => true | _ => false)
  | [x] => cc sc (.e x)
  | _ => false
def ckComp (N : List Str) (own : List (Str × Nat)) (t : Tgt) (it c m : ME) (ci cc cm : CkF) : CkF
  | sc, .e (.ListComp elt [⟨tg, iter, ifs, 0⟩] scope _) => blkC N sc scope own && (ci sc (.it tg iter) && (((okT t).1 && ckT true N (relS scope sc) t [tg]) && (isE m && (isL c && (((bsl it).all fun i => !(eff c ++ eff m ++ own.map (·.2)).contains i) &&
      (ckIfs c cc (relS scope sc) ifs && cm (relS scope sc) (.e elt)))))))
  | _, _ => false
def isSet : Expr → Bool
  | .Set _ _ _ => true
  | _ => false
def okVal : ME → Bool
  | .bor n _ => n == 0 || n == 1
  | a => isL a && !isBk a
def ckVal (a : ME) (ca : CkF) : CkF
  | sc, .it _ x => ca sc (.e x) && (okVal a && !isSet x)
  | _, _ => false
def ckRng1 (a : ME) (ca : CkF) : CkF
  | sc, .it _ (.Call (.Name f _) [x] [] _) => decide (f = "range") && (glB sc f && (!star x && (ca sc (.e x) && isE a)))
  | _, _ => false
def ckRng2 (a b : ME) (ca cb : CkF) : CkF
  | sc, .it _ (.Call (.Name f _) [x, y] [] _) => decide (f = "range") && (glB sc f && (!star x && (!star y && (ca sc (.e x) && (isE a && (cb sc (.e y) && isE b))))))
  | _, _ => false
def ckZip (a b : ME) (ca cb : CkF) : CkF
  | sc, .it (.Tuple _ _ _) (.Call (.Name f _) [x, y] [] _) => decide (f = "zip") && (glB sc f && (!star x && (!star y && (ca sc (.e x) && (isE a && (cb sc (.e y) && isE b))))))
  | _, _ => false
def ckPop (N : List Str) (n i : Nat) (k : Option Str) : CkF
  | sc, .e (.Call (.Attribute (.Name x _) m q) [] [] q') => nmB N sc i x && (decide (m = "pop") && (k.isNone && (n == 1 && q.endLine == q'.line)))
  | sc, .e (.Call (.Attribute (.Subscript (.Name x _) (.Constant (.str s) _ _) _) m q) [] [] q') => nmB N sc i x && (decide (m = "pop") && (decide (k = some s) && (n == 2 && q.endLine == q'.line)))
  | _, _ => false
def ckDsp (ks : List Str) (es : ME) (ce : CkF) : CkF
  | sc, .e (.Dict keys values _) => strKeys ks keys && (nodupS ks && (ce sc (.a values) && (allD es && (decide (ks.length = lenM es) && (decide (ks.length ≤ 15) && !ks.isEmpty)))))
  | _, _ => false
def ck (C : CkP) (N : List Str) : ME → CkF
  | .var i => ckNm N i
  | .bor _ i => ckNm N i
  | .frz i => ckNm N i
  | .mov _ i => ckNm N i
  | .iou _ i => ckNm N i
  | .cst d => ckCst d
  | .glb x n => ckGlb C x n
  | .flat a => ckFlat a (ck C N a)
  | .op1 o a => ckOp1 o a (ck C N a)
  | .op2 o a b => ckOp2 o a b (ck C N a) (ck C N b)
  | .chn o o' a b c => ckChn o o' a b c (ck C N a) (ck C N b) (ck C N c)
  | .and a b => ckBool .And a b (ck C N a) (ck C N b)
  | .or a b => ckBool .Or a b (ck C N a) (ck C N b)
  | .ife c a b => ckIfe a b c (ck C N a) (ck C N b) (ck C N c)
  | .tup es => ckTup es (ck C N es)
  | .lst es => ckLst es (ck C N es)
  | .nil => ckNil
  | .cons m es => ckCons m es (ck C N m) (ck C N es)
  | .sub a b => ckSub a b (ck C N a) (ck C N b)
  | .key a k => ckKey a k (ck C N a)
  | .slc a lo hi => ckSlc a lo hi (ck C N a) (ck C N lo) (ck C N hi)
  | .nop => fun _ _ => false
  | .rev a => ckRev a (ck C N a)
  | .blt (.isi ts) (.cons m .nil) => ckIsi ts m (ck C N m)
  | .blt b es => ckBlt C.gcd b es (ck C N es)
  | .call f r io es ks kw => ckCall C f r io es ks kw (ck C N es) (ck C N ks)
  | .comp own t it c m => ckComp N own t it c m (ck C N it) (ck C N c) (ck C N m)
  | .val a => ckVal a (ck C N a)
  | .rng1 a => ckRng1 a (ck C N a)
  | .rng2 a b => ckRng2 a b (ck C N a) (ck C N b)
  | .zip a b => ckZip a b (ck C N a) (ck C N b)
  | .enm _ => fun _ _ => false
  | .pop n i k => ckPop N n i k
  | .dsp ks es => ckDsp ks es (ck C N es)
end Mini

set_option Elab.async false
set_option linter.all false
set_option maxHeartbeats 1000000
/-! Mini: what an expression of the written text does is what its Mini expression evaluates to: readings, results, simple rules. -/
namespace Mini
open PySem L2 PySem.Spec PyProof.Rows

/-! ### results -/
def VR (K : PySem.W.Frag) (N : Addr → Prop) (σ : L2.St) (H : Hp) : Kd → D → V → List Addr → Prop
  | .e n, d, v, as => Own K N H n d v as
  | .f, d, v, as => Own K N H 1 d v as ∧ ∀ l, d ≠ .dict l
  | .b n, d, v, as => as = [] ∧ RepB K N H n d v
  | .r i, _, v, as => as = [] ∧ σ[i]? = some (some v)
def AR (K : PySem.W.Frag) (N : Addr → Prop) (σ : L2.St) (H : Hp) : List ME → List D → List V → List Addr → Prop
  | [], [], [], as => as = []
  | m :: ms, d :: ds, v :: vs, as => ∃ a1 a2, as = a1 ++ a2 ∧ VR K N σ H (kd m) d v a1 ∧ AR K N σ H ms ds vs a2
  | _, _, _, _ => False
/-- new addresses: nobody's, and none that stood unowned -/
def Fr (N : Addr → Prop) (S : Nat → Prop) (O : Nat → List Addr) (H : Hp) (as : List Addr) : Prop := as.Nodup ∧ ∀ a ∈ as, ¬ N a ∧ ((∃ i, S i ∧ a ∈ O i) ∨ H a = none)
abbrev Ef (m : ME) : Nat → Prop := fun j => j ∈ eff m
structure Got (K : PySem.W.Frag) (B : Addr → Prop) (σ : L2.St) (m : ME) (H : Hp) (ρ : Rho) (O : Nat → List Addr) (d : D) (v : V) (as : List Addr) (H' : Hp) (ρ' : Rho) (O' : Nat → List Addr) : Prop where
  sr : SR K B σ H' ρ' O'
  ch : Chg (Ef m) H ρ O H' ρ' O'
  vr : VR K (NN O' B) σ H' (kd m) d v as
  fr : Fr (NN O' B) (Ef m) O H as
  srs : SR K (pl B as) σ H' ρ' O'
  vrs : VR K (NN O' (pl B as)) σ H' (kd m) d v as
structure GotA (K : PySem.W.Frag) (B : Addr → Prop) (σ : L2.St) (m : ME) (H : Hp) (ρ : Rho) (O : Nat → List Addr) (ds : List D) (vs : List V) (as : List Addr) (H' : Hp) (ρ' : Rho) (O' : Nat → List Addr) : Prop where
  sr : SR K B σ H' ρ' O'
  ch : Chg (Ef m) H ρ O H' ρ' O'
  ar : AR K (NN O' B) σ H' (listM m) ds vs as
  fr : Fr (NN O' B) (Ef m) O H as
  srs : SR K (pl B as) σ H' ρ' O'
  ars : AR K (NN O' (pl B as)) σ H' (listM m) ds vs as
/-- an iterator that walks ds while G stands; T: the owned objects that it looks at -/
structure WD (K : PySem.W.Frag) (J : It) (ds : List D) (T : List Addr) (G : (Addr → Prop) → Hp → Prop) : Prop where
  goes : ∀ i N H, i < ds.length → G N H → J.go i H
  stops : ∀ N H, G N H → J.stop ds.length H
  yields : ∀ i N H x H', i < ds.length → G N H → J.yld i H x H' → ∃ d, ds[i]? = some d ∧ ((H' = H ∧ Rep K N H d x) ∨ ∃ p xs l, x = .ref p ∧ H p = none ∧ H' = upd H p (.tup xs) ∧ d = .tuple l ∧ All2 (Rep K N H) l xs)
  stay : ∀ N N' H H', Stay K N N' H H' → (∀ a ∈ T, ∀ o, H a = some o → H' a = some o) → G N H → G N' H'
section
variable (K : PySem.W.Frag) (G : Defs)
def tE (m : ME) : TE := fun σ H Q => ∃ B ρ O, SR K B σ H ρ O ∧ (ev G m ρ).sat fun r => ∀ v H' O' as, Got K B σ m H ρ O r.1 v as H' r.2 O' → Q v H'
def tAr (m : ME) : TA := fun σ H Q => ∃ B ρ O, SR K B σ H ρ O ∧ (ev G m ρ).sat fun r => ∀ ds vs H' O' as, r.1 = .list ds → GotA K B σ m H ρ O ds vs as H' r.2 O' → Q vs H'
def tTs (m : ME) : TT := fun σ H Q => ∃ B ρ O, SR K B σ H ρ O ∧ (ev G m ρ).sat fun r => (truth r.1).sat fun b => ∀ H' O', SR K B σ H' r.2 O' → Chg (Ef m) H ρ O H' r.2 O' → Q b H'
def tIt (m : ME) : TI := fun σ H R => ∃ B ρ O, SR K B σ H ρ O ∧ (ev G m ρ).sat fun r => ∃ ds, iterOf r.1 = some ds ∧ ∀ J H' O' T Gd, SR K B σ H' r.2 O' → Chg (Ef m) H ρ O H' r.2 O' → (∀ a ∈ T, ∃ i ∈ bsl m, a ∈ O' i) → WD K J ds T Gd → Gd (NN O' B) H' → R J H'
end

/-! ### defs that are called -/
structure FnG (P : Program) (w : World) (K : PySem.W.Frag) (mg : Str → Option Value) (base : Heap) (k : Nat) (f : Addr) (fd : FuncData) (ps : List Str) (sp : List V → Hp → VK → Prop) : Prop where
  run : ∀ (A : Around) (outer : List Env) (s : Shared) (H : Hp) (args : Args) (us : List Value) (vs : List V) (Q : VK), Room k A → A.guards = some [] → Env0 P w K mg base A outer s H → BindsTo s fd args (ps.zip us) → Vals vs us → sp vs H Q →
    codeAny (model P w) A (.call (.ref f) args) (CR CX0 outer P w H s Q E0) s
/-- the places that a def is given to change -/
abbrev Sm (ms : List Nat) : Nat → Prop := fun j => ∃ n, ms[j]? = some (n + 1)
def spD (K : PySem.W.Frag) (df : Df) (sem : List D → Out (D × List D)) : List V → Hp → VK → Prop := fun vs H Q =>
  ∃ B ds O, SR K B (vs.map some) H ((df.ms.zip ds).map some) O ∧ ds.length = df.ms.length ∧ vs.length = df.ps.length ∧ (sem ds).sat fun r => ∀ v H' ρ' O' as, SR K B (vs.map some) H' ρ' O' → Chg (Sm df.ms) H ((df.ms.zip ds).map some) O H' ρ' O' →
    outsOf ρ' 0 df.ms = .ok r.2 → Own K (NN O' B) H' df.ret r.1 v as → Fr (NN O' B) (Sm df.ms) O H as → SR K (pl B as) (vs.map some) H' ρ' O' → Own K (NN O' (pl B as)) H' df.ret r.1 v as → Q v H'
/-- how the arguments of a call are bound -/
def BindOk (K : PySem.W.Frag) (fd : FuncData) (df : Df) : Prop := ∀ p ∈ df.kws, ∀ (s : Shared) (us ws : List Value), K.In s.heap → us.length = p.1 → ws.length = p.2.1.length → BindsTo s fd ⟨us, p.2.1.zip ws⟩ (df.ps.zip (permL (us ++ ws) p.2.2))
/-- what is known of the frame that runs -/
structure XOk (C : CkP) (G : Defs) (X : Cx) : Prop where
  nd : X.N.Nodup
  calm : X.calm = true
  hu : X.A.units + 64 < cLine
  gu : X.A.guards = some []
  px : X.xe = fun _ _ => False
  blt : ∀ x ∈ bltNames, X.mg x = none
  gcd : C.gcd = true → X.mg "gcd" = some (.builtin "math.gcd")
  gc : ∀ p ∈ C.GC, ∃ t, X.mg p.1 = some (.int p.2 t)
  call : ∀ f df, C.P f = some df → ∃ k a fd, X.mg df.nm = some (.ref a) ∧ PySem.W.keepIn X.K (.ref a) = true ∧ BindOk X.K fd df ∧ Room k X.A ∧ FnG X.prog X.w X.K X.mg X.base k a fd df.ps (spD X.K df (G f))

/-! ### small steps -/
section
variable {K : PySem.W.Frag} {B : Addr → Prop} {N : Addr → Prop} {σ σ' : L2.St} {H H' H1 H2 : Hp} {ρ ρ' ρ1 ρ2 : Rho} {O O' O1 O2 : Nat → List Addr} {S S' : Nat → Prop} {d : D} {v : V} {as : List Addr}
theorem Fr.nil : Fr N S O H [] := ⟨List.nodup_nil, fun _ h => nomatch h⟩
theorem Got.of0 {m : ME} (sr : SR K B σ H' ρ' O') (ch : Chg (Ef m) H ρ O H' ρ' O') (vr : VR K (NN O' B) σ H' (kd m) d v []) : Got K B σ m H ρ O d v [] H' ρ' O' :=
  ⟨sr, ch, vr, Fr.nil, by rw [pl_nil]; exact sr, by rw [pl_nil]; exact vr⟩
theorem own_look {n : Nat} (hn : n ≤ 1) (h : Own K N H n d v as) : Look K N H d v := by
  rcases n with _ | _ | n
  · exact h.2.look
  · cases d with
    | list ds =>
      obtain ⟨a, xs, bs, e, h1, _, t⟩ := h
      exact ⟨a, xs, e, SqL.of h1, reps_all.mp (all3_repN (fun d _ x cs _ o => o.2) t)⟩
    | dict kvs =>
      obtain ⟨a, xs, bs, e, _⟩ := h
      exact ⟨a, e⟩
    | none => exact h.2
    | bool b => exact h.2
    | int i => exact h.2
    | str x => exact h.2
    | tuple l => exact h.2
  · omega
theorem repB_look (h : RepB K N H 1 d v) : Look K N H d v := by
  cases d with
  | list ds => exact h
  | dict kvs =>
    obtain ⟨a, xs, e, _⟩ := h
    exact ⟨a, e⟩
  | none => exact h
  | bool b => exact h
  | int i => exact h
  | str x => exact h
  | tuple l => exact h
theorem own1_rep (nd : ∀ l, d ≠ .dict l) (k : ∀ a ∈ as, ¬ N a) (h : Own K N H 1 d v as) : Rep K N H d v := by
  cases d with
  | list ds =>
    obtain ⟨a, xs, bs, e, h1, rfl, t⟩ := h
    exact ⟨a, xs, e, .inl ⟨Rd.of h1, k a List.mem_cons_self⟩, all3_repN (fun d _ x cs _ o => o.2) t⟩
  | dict kvs => exact absurd rfl (nd kvs)
  | none => exact h.2
  | bool b => exact h.2
  | int i => exact h.2
  | str x => exact h.2
  | tuple l => exact h.2
theorem isE_rep {m : ME} (e : isE m = true) (k : ∀ a ∈ as, ¬ N a) (h : VR K N σ H (kd m) d v as) : Rep K N H d v := by
  unfold isE at e
  cases q : kd m with
  | e n =>
    rw [q] at h e
    cases n with
    | zero => exact h.2
    | succ n => cases e
  | f => rw [q] at h; exact own1_rep h.2 k h.1
  | b n => rw [q] at e; cases e
  | r i => rw [q] at e; cases e
theorem isL_look {m : ME} (e : isL m = true) (h : VR K N σ H (kd m) d v as) : Look K N H d v := by
  unfold isL at e
  cases q : kd m with
  | e n =>
    rw [q] at h e
    rcases n with _ | _ | n
    · exact own_look (Nat.zero_le _) h
    · exact own_look (Nat.le_refl _) h
    · cases e
  | f => rw [q] at h; exact own_look (Nat.le_refl _) h.1
  | b n =>
    rw [q] at h e
    rcases n with _ | _ | n
    · cases e
    · exact repB_look h.2
    · cases e
  | r i => rw [q] at e; cases e
theorem isE_isL {m : ME} (e : isE m = true) : isL m = true := by
  unfold isE at e
  unfold isL
  split at e <;> simp_all
/-- a value that is nobody's, as the result of an expression of the kind e 0 -/
theorem vr_rep {k : Kd} (e : k = .e 0) (r : Rep K N H d v) : VR K N σ H k d v [] := by
  subst e
  exact ⟨rfl, r⟩
/-- the shared stays, in looks too -/
theorem all2_stay {N' : Addr → Prop} (s : Stay K N N' H H') {ds : List D} {xs : List V} (h : All2 (Rep K N H) ds xs) : All2 (Rep K N' H') ds xs := h.imp fun d x r => rep_stay s d x r
theorem look_keep {N' : Addr → Prop} (s : Stay K N N' H H') (k : ∀ a o, H a = some o → H' a = some o) (h : Look K N H d v) : Look K N' H' d v := by
  cases d with
  | list ds =>
    obtain ⟨a, xs, e, q, t⟩ := h
    refine ⟨a, xs, e, ?_, all2_stay s t⟩
    rcases q with (q | ⟨o, q⟩) | q
    · exact .inl (.inl (k a _ q))
    · exact .inl (.inr ⟨o, k a _ q⟩)
    · exact .inr q
  | dict kvs => exact h
  | none => exact rep_stay s _ _ h
  | bool b => exact rep_stay s _ _ h
  | int i => exact rep_stay s _ _ h
  | str x => exact rep_stay s _ _ h
  | tuple l => exact rep_stay s _ _ h
theorem Chg.all (c : Chg S H ρ O H' ρ' O') (e : ∀ j, ¬ S j) : ∀ a o, H a = some o → H' a = some o := fun a o h => c.pres a o h fun i s => absurd s (e i)
theorem eff_nil {m : ME} (e : (eff m).isEmpty = true) : ∀ j, ¬ Ef m j := fun j h => by
  have : eff m = [] := by simpa using e
  unfold Ef at h
  rw [this] at h
  cases h
/-- an operand's look, behind the other operand -/
theorem side_look {a b : ME} {as : List Addr} (e : sideB a b = true) (r1 : SR K B σ H1 ρ1 O1) (fa : ∀ x ∈ as, ¬ NN O1 B x) (h : VR K (NN O1 B) σ H1 (kd a) d v as) (c : Chg (Ef b) H1 ρ1 O1 H2 ρ2 O2) (r2 : SR K B σ H2 ρ2 O2) : Look K (NN O2 B) H2 d v := by
  unfold sideB at e
  rw [Bool.or_eq_true] at e
  rcases e with e | e
  · exact (rep_stay (r1.stay c r2) _ _ (isE_rep e fa h)).look
  · rw [Bool.and_eq_true] at e
    exact look_keep (r1.stay c r2) (c.all (eff_nil e.2)) (isL_look e.1 h)

/-! a new object -/
theorem SR.laid (r : SR K B σ H ρ O) {p : Addr} {o : HO} (hp : H p = none) (k : KD K (upd H p o)) : SR K B σ (upd H p o) ρ O := by
  have st : Stay K (NN O B) (NN O B) H (upd H p o) := ⟨fun a u h _ => by rw [upd_ne (ne_of_none h hp)]; exact h, fun _ n _ => n⟩
  refine ⟨k, r.len, fun i n d e => ?_, r.em, r.dj, r.nd, r.nb, fun a b => ?_⟩
  · obtain ⟨v, h1, h2⟩ := r.sl i n d e
    exact ⟨v, h1, own_stay st (fun a _ u h => by rw [upd_ne (ne_of_none h hp)]; exact h) h2⟩
  · have := r.bt a b
    cases q : H a with
    | none => exact absurd q this
    | some u => rw [upd_ne (ne_of_none q hp), q]; simp
theorem Chg.laid {p : Addr} {o : HO} (hp : H p = none) : Chg S H ρ O (upd H p o) ρ O :=
  ⟨fun _ _ => ⟨rfl, rfl⟩, fun j a s h => .inl ⟨j, s, h⟩, fun a u h _ => by rw [upd_ne (ne_of_none h hp)]; exact h, rfl⟩
theorem SR.fresh (r : SR K B σ H ρ O) {p : Addr} (hp : H p = none) : ¬ NN O B p := fun n => r.tr n hp
theorem stay_laid {p : Addr} {o : HO} (hp : H p = none) : Stay K N N H (upd H p o) := ⟨fun a u h _ => by rw [upd_ne (ne_of_none h hp)]; exact h, fun _ n _ => n⟩
theorem nn_keep {p : Addr} {as : List Addr} (h : ∀ a ∈ as, ¬ N a) (hp : ¬ N p) : ∀ a ∈ p :: as, ¬ N a := fun a m => by
  rcases List.mem_cons.mp m with rfl | m
  · exact hp
  · exact h a m
theorem all3_own0 : ∀ {ds : List D} {xs : List V}, All2 (Rep K N H) ds xs → All3 (Own K N H 0) ds xs []
  | [], _, h => ⟨h, rfl⟩
  | d :: ds, _, ⟨x, xs, e, r, t⟩ => ⟨x, xs, [], [], e, rfl, ⟨rfl, r⟩, all3_own0 t⟩
/-- a new object, nobody's yet -/
theorem SR.newP {o : HO} {p : Addr} (r : SR K B σ H ρ O) (hp : H p = none) : SR K (pl B [p]) σ (upd H p o) ρ O ∧ Stay K (NN O B) (NN O (pl B [p])) H (upd H p o) := by
  have st : Stay K (NN O B) (NN O (pl B [p])) H (upd H p o) := ⟨fun a u h _ => by rw [upd_ne (ne_of_none h hp)]; exact h, fun a n h k => by
    rcases k with k | k | k
    · exact n (.inl k)
    · exact n (.inr k)
    · have : a = p := by simpa using k
      subst this
      exact h hp⟩
  refine ⟨⟨trivial, r.len, fun i n d e => ?_, r.em, r.dj, r.nd, fun i a h b => ?_, fun a b => ?_⟩, st⟩
  · obtain ⟨v, h1, h2⟩ := r.sl i n d e
    exact ⟨v, h1, own_stay st (fun a _ u h => by rw [upd_ne (ne_of_none h hp)]; exact h) h2⟩
  · rcases b with b | b
    · exact r.nb i a h b
    · have : a = p := by simpa using b
      subst this
      exact r.tr (.inl ⟨i, h⟩) hp
  · rcases b with b | b
    · have := r.bt a b
      cases q : H a with
      | none => exact absurd q this
      | some u => rw [upd_ne (ne_of_none q hp), q]; simp
    · have : a = p := by simpa using b
      subst this
      rw [upd_same]; simp
/-- fewer others -/
theorem nn_le {B' : Addr → Prop} (h : ∀ a, B a → B' a) : ∀ a, NN O B a → NN O B' a := fun a n => n.imp id (h a)
theorem stay_le (h : ∀ a, N a → S a) : Stay K S N H H := ⟨fun _ _ e _ => e, fun a n _ k => n (h a k)⟩
theorem SR.le {B' : Addr → Prop} (r : SR K B' σ H ρ O) (h : ∀ a, B a → B' a) : SR K B σ H ρ O :=
  ⟨r.kd, r.len, fun i n d e => by
    obtain ⟨v, h1, h2⟩ := r.sl i n d e
    exact ⟨v, h1, own_stay (stay_le (nn_le h)) (fun _ _ _ h => h) h2⟩, r.em, r.dj, r.nd, fun i a k b => r.nb i a k (h a b), fun a b => r.bt a (h a b)⟩
theorem pl_le : ∀ a, B a → pl B as a := fun _ h => .inl h
/-- what an operation gives, as the result of an expression -/
theorem newV_got {k : Kd} (hk : k = .e 0 ∨ k = .f) (r : SR K B σ H ρ O) (n : NewV K (NN O B) H d v as H') (kd : KD K H') : SR K B σ H' ρ O ∧ Chg S H ρ O H' ρ O ∧ ∃ bs, VR K (NN O B) σ H' k d v bs ∧ bs.Nodup ∧ (∀ a ∈ bs, ¬ NN O B a ∧ H a = none) ∧ SR K (pl B bs) σ H' ρ O ∧ VR K (NN O (pl B bs)) σ H' k d v bs := by
  have zero : SR K B σ H' ρ O → VR K (NN O B) σ H' k d v [] → ∃ bs, VR K (NN O B) σ H' k d v bs ∧ bs.Nodup ∧ (∀ a ∈ bs, ¬ NN O B a ∧ H a = none) ∧ SR K (pl B bs) σ H' ρ O ∧ VR K (NN O (pl B bs)) σ H' k d v bs := fun r h =>
    ⟨[], h, List.nodup_nil, fun _ h => (nomatch h), by rw [pl_nil]; exact r, by rw [pl_nil]; exact h⟩
  cases n with
  | same nl nd q =>
    refine ⟨r, Chg.refl, zero r ?_⟩
    rcases hk with e | e
    · exact vr_rep e q
    · subst e
      cases d with
      | list ds => exact absurd rfl (nl ds)
      | dict kvs => exact absurd rfl (nd kvs)
      | none => exact ⟨⟨rfl, q⟩, nd⟩
      | bool b => exact ⟨⟨rfl, q⟩, nd⟩
      | int i => exact ⟨⟨rfl, q⟩, nd⟩
      | str x => exact ⟨⟨rfl, q⟩, nd⟩
      | tuple l => exact ⟨⟨rfl, q⟩, nd⟩
  | @tup p xs ds hp t =>
    have q : Rep K (NN O B) (upd H p (.tup xs)) (.tuple ds) (.ref p) := ⟨p, xs, rfl, SqT.of upd_same, reps_all.mpr (all2_stay (stay_laid hp) t)⟩
    refine ⟨r.laid hp kd, Chg.laid hp, zero (r.laid hp kd) ?_⟩
    rcases hk with e | e
    · exact vr_rep e q
    · subst e
      exact ⟨⟨rfl, q⟩, by simp⟩
  | @lst p xs ds hp t =>
    have t' := all2_stay (stay_laid (N := NN O B) (o := .lst xs) hp) t
    refine ⟨r.laid hp kd, Chg.laid hp, ?_⟩
    rcases hk with e | e
    · exact zero (r.laid hp kd) (vr_rep e ⟨p, xs, rfl, .inl ⟨Rd.of upd_same, r.fresh hp⟩, reps_all.mpr t'⟩)
    · subst e
      obtain ⟨r2, st2⟩ := r.newP (o := .lst xs) hp
      exact ⟨[p], ⟨⟨p, xs, [], rfl, upd_same, rfl, all3_own0 t'⟩, by simp⟩, by simp, fun a h => (by
        have e : a = p := by simpa using h
        subst e
        exact ⟨r.fresh hp, hp⟩), r2, ⟨p, xs, [], rfl, upd_same, rfl, all3_own0 (all2_stay st2 t)⟩, by simp⟩

/-! ### the rules -/
variable {C : CkP} {G : Defs} {X : Cx} {e : Expr} {m : ME}
theorem kd_inv {pins : List (Addr × Obj)} {s : Shared} (I : Inv X pins σ H s) : KD X.K H := True.intro
/-- a reading by a rule's own reading; the written part is never tracked -/
theorem PE.by {t t' : TE} (h : PE X e t) (k : ∀ σ H Q, t' σ H Q → t σ H fun v H' => KD X.K H' → Q v H') : PE X e t' :=
  ⟨fun pins s σ H Q I q => thn (h.run pins s σ H _ I (k σ H Q q)) fun u s' ⟨v, H', I', r, q'⟩ => ⟨v, H', I', r, q' (kd_inv I')⟩⟩
theorem PA.by {es : List Expr} {t t' : TA} (h : PA X es t) (k : ∀ σ H Q, t' σ H Q → t σ H fun v H' => KD X.K H' → Q v H') : PA X es t' :=
  ⟨fun pos pins s σ H Q I q => thn (h.run pos pins s σ H _ I (k σ H Q q)) fun u s' ⟨v, H', I', r, q'⟩ => ⟨v, H', I', r, q' (kd_inv I')⟩⟩
theorem PT.by {t t' : TT} (h : PT X e t) (k : ∀ σ H Q, t' σ H Q → t σ H fun v H' => KD X.K H' → Q v H') : PT X e t' :=
  ⟨fun pins s σ H Q I q => thn (h.run pins s σ H _ I (k σ H Q q)) fun b s' ⟨H', I', q'⟩ => ⟨H', I', q' (kd_inv I')⟩⟩

theorem ownD_sat {n i : Nat} {P : D → Prop} (h : (ownD ρ n i).sat P) : ∃ d, getS ρ i = some (n, d) ∧ P d := by
  unfold ownD at h
  cases q : getS ρ i with
  | none => rw [q] at h; exact h.elim
  | some p =>
    obtain ⟨k, d⟩ := p
    rw [q] at h
    change (if k = n then Out.ok d else Out.bad).sat P at h
    by_cases c : k = n
    · subst c
      rw [if_pos rfl] at h
      exact ⟨d, rfl, h⟩
    · rw [if_neg c] at h
      exact h.elim
theorem getS_lt {i : Nat} {x : Nat × D} (h : getS ρ i = some x) : i < ρ.length := by
  unfold getS at h
  by_cases c : i < ρ.length
  · exact c
  · rw [List.getElem?_eq_none (by omega)] at h
    cases h
theorem getS_set {i j : Nat} {x : Slot} (h : i < ρ.length) : getS (ρ.set i x) j = if j = i then x else getS ρ j := by
  unfold getS
  by_cases c : j = i
  · subst c
    rw [if_pos rfl, List.getElem?_set_self h]
    rfl
  · rw [if_neg c, List.getElem?_set_ne (fun e => c e.symm)]
def updO (O : Nat → List Addr) (i : Nat) (as : List Addr) : Nat → List Addr := fun j => if j = i then as else O j
theorem updO_same {i : Nat} : updO O i as i = as := if_pos rfl
theorem updO_ne {i j : Nat} (h : j ≠ i) : updO O i as j = O j := if_neg h
theorem nn_upd {i : Nat} {a : Addr} : NN (updO O i as) B a ↔ (a ∈ as ∨ ∃ j, j ≠ i ∧ a ∈ O j) ∨ B a := by
  unfold NN
  constructor
  · rintro (⟨j, hj⟩ | b)
    · by_cases c : j = i
      · subst c
        rw [updO_same] at hj
        exact .inl (.inl hj)
      · rw [updO_ne c] at hj
        exact .inl (.inr ⟨j, c, hj⟩)
    · exact .inr b
  · rintro ((h | ⟨j, c, h⟩) | b)
    · exact .inl ⟨i, by rw [updO_same]; exact h⟩
    · exact .inl ⟨j, by rw [updO_ne c]; exact h⟩
    · exact .inr b
/-- the place i is given something else -/
theorem SR.put {i n : Nat} (r : SR K B σ H ρ O) (st : Stay K (NN O B) (NN (updO O i as) B) H H') (kd' : KD K H') (keep : ∀ j, j ≠ i → ∀ a ∈ O j, ∀ o, H a = some o → H' a = some o) (hi : i < ρ.length)
    (hv : σ'[i]? = some (some v)) (hσ : ∀ j, j ≠ i → σ'[j]? = σ[j]?) (hl : σ'.length = σ.length) (own : Own K (NN (updO O i as) B) H' n d v as) (nd : as.Nodup) (dj : ∀ a ∈ as, ¬ B a ∧ ∀ j, j ≠ i → a ∉ O j) (bt : ∀ a, B a → H' a ≠ none) :
    SR K B σ' H' (ρ.set i (some (n, d))) (updO O i as) := by
  refine ⟨kd', by rw [hl, List.length_set]; exact r.len, fun j k x e => ?_, fun j e => ?_, fun j k a h1 h2 => ?_, fun j => ?_, fun j a h => ?_, bt⟩
  · rw [getS_set hi] at e
    by_cases c : j = i
    · subst c
      rw [if_pos rfl] at e
      cases e
      rw [updO_same]
      exact ⟨v, hv, own⟩
    · rw [if_neg c] at e
      obtain ⟨w, h1, h2⟩ := r.sl j k x e
      rw [updO_ne c]
      exact ⟨w, by rw [hσ j c]; exact h1, own_stay st (keep j c) h2⟩
  · rw [getS_set hi] at e
    by_cases c : j = i
    · rw [if_pos c] at e; cases e
    · rw [if_neg c] at e
      rw [updO_ne c]
      exact r.em j e
  · by_cases c : j = i
    · by_cases c2 : k = i
      · rw [c, c2]
      · rw [c, updO_same] at h1
        rw [updO_ne c2] at h2
        exact absurd h2 ((dj a h1).2 k c2)
    · rw [updO_ne c] at h1
      by_cases c2 : k = i
      · rw [c2, updO_same] at h2
        exact absurd h1 ((dj a h2).2 j c)
      · rw [updO_ne c2] at h2
        exact r.dj j k a h1 h2
  · by_cases c : j = i
    · rw [c, updO_same]; exact nd
    · rw [updO_ne c]; exact r.nd j
  · by_cases c : j = i
    · rw [c, updO_same] at h; exact (dj a h).1
    · rw [updO_ne c] at h; exact r.nb j a h
/-- the place i is emptied -/
theorem SR.drop {i : Nat} (r : SR K B σ H ρ O) (hi : i < ρ.length) : SR K B σ H (ρ.set i none) (updO O i []) := by
  have sub : ∀ a, NN (updO O i []) B a → NN O B a := fun a h => by
    rcases nn_upd.mp h with (h | ⟨j, _, h⟩) | b
    · cases h
    · exact .inl ⟨j, h⟩
    · exact .inr b
  have st : Stay K (NN O B) (NN (updO O i []) B) H H := ⟨fun a o h _ => h, fun a n _ h => n (sub a h)⟩
  refine ⟨r.kd, by rw [List.length_set]; exact r.len, fun j k x e => ?_, fun j e => ?_, fun j k a h1 h2 => ?_, fun j => ?_, fun j a h => ?_, r.bt⟩
  · rw [getS_set hi] at e
    by_cases c : j = i
    · rw [if_pos c] at e; cases e
    · rw [if_neg c] at e
      obtain ⟨w, h1, h2⟩ := r.sl j k x e
      rw [updO_ne c]
      exact ⟨w, h1, own_stay st (fun _ _ _ h => h) h2⟩
  · rw [getS_set hi] at e
    by_cases c : j = i
    · rw [c, updO_same]
    · rw [if_neg c] at e
      rw [updO_ne c]
      exact r.em j e
  · by_cases c : j = i
    · rw [c, updO_same] at h1; cases h1
    · by_cases c2 : k = i
      · rw [c2, updO_same] at h2; cases h2
      · rw [updO_ne c] at h1
        rw [updO_ne c2] at h2
        exact r.dj j k a h1 h2
  · by_cases c : j = i
    · rw [c, updO_same]; exact List.nodup_nil
    · rw [updO_ne c]; exact r.nd j
  · by_cases c : j = i
    · rw [c, updO_same] at h; cases h
    · rw [updO_ne c] at h; exact r.nb j a h
theorem stay_less {i : Nat} (sub : ∀ a ∈ as, a ∈ O i) : Stay K (NN O B) (NN (updO O i as) B) H H := ⟨fun a o h _ => h, fun a n _ h => n (by
  rcases nn_upd.mp h with (h | ⟨j, _, h⟩) | b
  · exact .inl ⟨i, sub a h⟩
  · exact .inl ⟨j, h⟩
  · exact .inr b)⟩
theorem own_repB : ∀ {n : Nat} {d : D} {v : V} {as : List Addr}, Own K N H n d v as → RepB K N H n d v
  | 0, _, _, _, h => h.2
  | n + 1, d, v, as, h => by
    have all : ∀ {ds : List D} {xs : List V} {bs : List Addr}, All3 (Own K N H n) ds xs bs → All2 (RepB K N H n) ds xs := by
      intro ds
      induction ds with
      | nil => intro xs bs t; exact t.1
      | cons d ds ih =>
        rintro xs bs ⟨x, ys, a1, a2, e, _, r, t⟩
        exact ⟨x, ys, e, own_repB r, ih t⟩
    have kv : ∀ {ds : List (D × D)} {xs : List (Key × V)} {bs : List Addr}, Kv3 (Own K N H n) ds xs bs → Kv2 (RepB K N H n) ds xs := by
      intro ds
      induction ds with
      | nil => intro xs bs t; exact t.1
      | cons d ds ih =>
        rintro xs bs ⟨k, x, ys, a1, a2, e, _, q, r, t⟩
        exact ⟨k, x, ys, e, q, own_repB r, ih t⟩
    cases d with
    | list ds =>
      obtain ⟨a, xs, bs, e, h1, _, t⟩ := h
      exact ⟨a, xs, e, SqL.of h1, all t⟩
    | dict kvs =>
      obtain ⟨a, xs, bs, e, h1, _, t⟩ := h
      exact ⟨a, xs, e, h1.1, kv t⟩
    | none => exact h.2
    | bool b => exact h.2
    | int i => exact h.2
    | str x => exact h.2
    | tuple l => exact h.2
end
end Mini

set_option Elab.async false
set_option linter.all false
set_option maxHeartbeats 1000000
/-! Mini: soundness of the expressions, first part. -/
namespace Mini
open PySem L2 PySem.Spec PyProof.Rows

section
variable {K : PySem.W.Frag} {B : Addr → Prop} {N N' : Addr → Prop} {σ σ' : L2.St} {H H' H1 H2 : Hp} {ρ ρ' ρ1 ρ2 : Rho} {O O' O1 O2 : Nat → List Addr} {S S' S1 S2 : Nat → Prop} {d : D} {v : V} {as bs : List Addr}
theorem Chg.back (c : Chg S H ρ O H1 ρ1 O1) {a : Addr} (z : H1 a = none) : (∃ i, S i ∧ a ∈ O i) ∨ H a = none := by
  cases e : H a with
  | none => exact .inr rfl
  | some o =>
    refine .inl ?_
    by_cases q : ∃ i, S i ∧ a ∈ O i
    · exact q
    · have := c.pres a o e fun i s h => q ⟨i, s, h⟩
      rw [z] at this; cases this
/-- fresh behind a run: fresh ahead of it -/
theorem Fr.back (c : Chg S H ρ O H1 ρ1 O1) (f : Fr N S' O1 H1 as) (h1 : ∀ j, S j → S2 j) (h2 : ∀ j, S' j → S2 j) : Fr N S2 O H as := by
  refine ⟨f.1, fun a h => ⟨(f.2 a h).1, ?_⟩⟩
  rcases (f.2 a h).2 with ⟨i, si, hi⟩ | z
  · by_cases q : S i
    · rcases c.fresh i a q hi with ⟨j, sj, hj⟩ | z
      · exact .inl ⟨j, h1 j sj, hj⟩
      · exact .inr z
    · rw [(c.same i q).2] at hi
      exact .inl ⟨i, h2 i si, hi⟩
  · rcases c.back z with ⟨j, sj, hj⟩ | z
    · exact .inl ⟨j, h1 j sj, hj⟩
    · exact .inr z
theorem Fr.mono (f : Fr N S O H as) (h : ∀ j, S j → S2 j) : Fr N S2 O H as := ⟨f.1, fun a m => ⟨(f.2 a m).1, (f.2 a m).2.imp (fun ⟨i, s, x⟩ => ⟨i, h i s, x⟩) id⟩⟩
/-- new ones -/
theorem Fr.new (c : Chg S H ρ O H1 ρ1 O1) (h1 : ∀ j, S j → S2 j) (nd : as.Nodup) (f : ∀ a ∈ as, ¬ N a ∧ H1 a = none) : Fr N S2 O H as :=
  ⟨nd, fun a h => ⟨(f a h).1, (c.back (f a h).2).imp (fun ⟨i, s, x⟩ => ⟨i, h1 i s, x⟩) id⟩⟩
theorem repB_keep (s : Stay K N N' H H') (k : ∀ a o, H a = some o → H' a = some o) : ∀ {n : Nat} {d : D} {v : V}, RepB K N H n d v → RepB K N' H' n d v
  | 0, _, _, h => rep_stay s _ _ h
  | n + 1, d, v, h => by
    have all : ∀ {ds : List D} {xs : List V}, All2 (RepB K N H n) ds xs → All2 (RepB K N' H' n) ds xs := fun t => t.imp fun d x r => repB_keep s k r
    have kv : ∀ {ds : List (D × D)} {xs : List (Key × V)}, Kv2 (RepB K N H n) ds xs → Kv2 (RepB K N' H' n) ds xs := by
      intro ds
      induction ds with
      | nil => intro xs t; exact t
      | cons d ds ih =>
        rintro xs ⟨k, x, ys, e, q, r, t⟩
        exact ⟨k, x, ys, e, q, repB_keep s (by assumption) r, ih t⟩
    cases d with
    | list ds =>
      obtain ⟨a, xs, e, q, t⟩ := h
      refine ⟨a, xs, e, ?_, all t⟩
      rcases q with (q | ⟨o, q⟩) | q
      · exact .inl (.inl (k a _ q))
      · exact .inl (.inr ⟨o, k a _ q⟩)
      · exact .inr q
    | dict kvs =>
      obtain ⟨a, xs, e, h1, t⟩ := h
      exact ⟨a, xs, e, k a _ h1, kv t⟩
    | none => exact rep_stay s _ _ h
    | bool b => exact rep_stay s _ _ h
    | int i => exact rep_stay s _ _ h
    | str x => exact rep_stay s _ _ h
    | tuple l => exact rep_stay s _ _ h
def bookB (m : ME) (es : ME) : Prop := notB m es = true
/-- the addresses of a result are there -/
theorem vr_ot {k : Kd} (h : VR K N σ H k d v as) : OT H as := by
  cases k with
  | e n => exact own_ot h
  | f => exact own_ot h.1
  | b n => obtain ⟨rfl, _⟩ := h; intro a m; cases m
  | r i => obtain ⟨rfl, _⟩ := h; intro a m; cases m
theorem ot_some (h : OT H as) {a : Addr} (m : a ∈ as) : H a ≠ none := by
  obtain ⟨o, e, _⟩ := h a m
  rw [e]; simp
/-- a result stands behind a run that touches none of its own -/
theorem vr_move {m es : ME} (nb : notB m es = true) (c : Chg (Ef es) H1 ρ1 O1 H2 ρ2 O2) (st : Stay K N N' H1 H2) (kp : ∀ a ∈ as, ∀ o, H1 a = some o → H2 a = some o) (h : VR K N σ H1 (kd m) d v as) : VR K N' σ H2 (kd m) d v as := by
  unfold notB at nb
  cases q : kd m with
  | e n => rw [q] at h; exact own_stay st kp h
  | f => rw [q] at h; exact ⟨own_stay st kp h.1, h.2⟩
  | b n =>
    rw [q] at h nb
    exact ⟨h.1, repB_keep st (c.all (eff_nil nb)) h.2⟩
  | r i => rw [q] at h; exact h
theorem vr_weak {k : Kd} (le : ∀ a, N a → N' a) (h : VR K N' σ H k d v as) : VR K N σ H k d v as := by
  cases k with
  | e n => exact own_stay (stay_le le) (fun _ _ _ e => e) h
  | f => exact ⟨own_stay (stay_le le) (fun _ _ _ e => e) h.1, h.2⟩
  | b n => exact ⟨h.1, repB_keep (stay_le le) (fun _ _ e => e) h.2⟩
  | r i => exact h
theorem ar_weak (le : ∀ a, N a → N' a) : ∀ {ms : List ME} {ds : List D} {vs : List V} {as : List Addr}, AR K N' σ H ms ds vs as → AR K N σ H ms ds vs as
  | [], [], [], _, h => h
  | _ :: _, _ :: _, _ :: _, _, ⟨a1, a2, e, h1, h2⟩ => ⟨a1, a2, e, vr_weak le h1, ar_weak le h2⟩
  | [], [], _ :: _, _, h => h.elim
  | [], _ :: _, _, _, h => h.elim
  | _ :: _, [], _, _, h => h.elim
  | _ :: _, _ :: _, [], _, h => h.elim
/-- a stay, the new among the owned -/
theorem stay_pl (s : Stay K N (NN O2 B) H1 H2) (f : ∀ a ∈ as, N a ∨ H1 a = none) : Stay K N (NN O2 (pl B as)) H1 H2 := ⟨s.keep, fun a n h k => by
  rcases k with k | k | k
  · exact s.out a n h (.inl k)
  · exact s.out a n h (.inr k)
  · rcases f a k with q | q
    · exact n q
    · exact h q⟩
theorem vr_keep {m es : ME} (nb : notB m es = true) (r1 : SR K B σ H1 ρ1 O1) (c : Chg (Ef es) H1 ρ1 O1 H2 ρ2 O2) (r2 : SR K B σ H2 ρ2 O2) (fa : ∀ a ∈ as, ¬ NN O1 B a) (h : VR K (NN O1 B) σ H1 (kd m) d v as) :
    VR K (NN O2 B) σ H2 (kd m) d v as ∧ ∀ a ∈ as, ¬ NN O2 B a := by
  have st := r1.stay c r2
  have kp : ∀ a ∈ as, ∀ o, H1 a = some o → H2 a = some o := fun a m o e => c.pres a o e fun i _ hi => fa a m (.inl ⟨i, hi⟩)
  have ot := vr_ot h
  refine ⟨?_, fun a m => st.out a (fa a m) (ot_some ot m)⟩
  unfold notB at nb
  cases q : kd m with
  | e n => rw [q] at h; exact own_stay st kp h
  | f => rw [q] at h; exact ⟨own_stay st kp h.1, h.2⟩
  | b n =>
    rw [q] at h nb
    exact ⟨h.1, repB_keep st (c.all (eff_nil nb)) h.2⟩
  | r i => rw [q] at h; exact h

/-! ### truth -/
theorem look_truth {b : Bool} (h : Look K N H d v) (t : truth d = .ok b) : TruV K v H b := by
  cases d with
  | none => cases h; cases t; rfl
  | bool c => cases h; cases t; rfl
  | int i => cases h; cases t; rfl
  | str x => cases t
  | dict l => cases t
  | list l =>
    cases t
    obtain ⟨a, xs, rfl, q, all⟩ := h
    refine .inl ⟨xs, q, ?_⟩
    cases l <;> (cases xs <;> first | rfl | (have := all.length; simp at this))
  | tuple l =>
    cases t
    obtain ⟨a, xs, rfl, q, all⟩ := h
    rw [reps_all] at all
    refine .inr (.inl ⟨xs, q, ?_⟩)
    cases l <;> (cases xs <;> first | rfl | (have := all.length; simp at this))
theorem sat_ok {α : Type} {m : Out α} {P : α → Prop} (h : m.sat P) : ∃ a, m = .ok a ∧ P a := by
  cases m with
  | ok a => exact ⟨a, rfl, h⟩
  | bad => exact h.elim
variable {G : Defs} {m : ME} {Q : VK}
/-- a test's reading, by the expression's -/
theorem tTs_tE {Q : Bool → Hp → Prop} (hl : isL m = true) (h : tTs K G m σ H Q) : tE K G m σ H fun v H' => ∃ k, TruV K v H' k ∧ Q k H' := by
  obtain ⟨B, ρ, O, sr, h⟩ := h
  refine ⟨B, ρ, O, sr, Out.sat_mono h fun r e h v H' O' as g => ?_⟩
  obtain ⟨b, e, q⟩ := sat_ok h
  exact ⟨b, look_truth (isL_look hl g.vr) e, q H' O' g.sr g.ch⟩
end

/-- a test by its value, the written part never tracked -/
structure PV (X : Cx) (e : Expr) (t : TE) : Prop where
  run : ∀ (pins : List (Addr × Obj)) (s : Shared) (σ : L2.St) (H : Hp) (Q : Bool → Hp → Prop), Inv X pins σ H s → t σ H (fun v H' => KD X.K H' → ∃ k, TruV X.K v H' k ∧ Q k H') → wpAny (model X.prog X.w) X.A (isTrue e X.env (eval e X.env)) (TP X pins σ Q) X.xe s
section
variable {X : Cx} {a b c e : Expr} {ta tb tc t : TE} {pos : Pos} {G : Defs} {m : ME}
theorem pv_plain (ha : PE X a ta) (he : ∀ whole, isTrue a X.env whole = (do let v ← whole; standAt a.pos; holding [v] (truthy v))) : PV X a ta :=
  ⟨fun pins s σ H Q I h => isTrue_plain (thn (ha.run pins s σ H _ I h) fun v s1 ⟨x, H1, I1, r1, q1⟩ => tru_ok pins s1 σ H1 x v Q I1 r1 (q1 (kd_inv I1))) (he _)⟩
theorem pv_cmp {op : CmpOp} {r : R2} (ho : OpR X (compareOp op) r) (ha : PE X a ta) (hb : PE X b tb) (hm : behindInMarks op b = false) : PV X (.Compare a [op] [b] pos) (tOp r ta tb) := by
  refine ⟨fun pins s σ H Q I h => ?_⟩
  refine wpAny_isTrue_Compare1 (thn (ha.run pins s σ H _ I h) fun v s1 ⟨x, H1, I1, r1, q1⟩ => thn (hb.run pins s1 σ H1 _ I1 q1) fun u s2 ⟨y, H2, I2, r2, q2⟩ =>
    thn (ho pins s2 σ H2 x y v u _ I2 r1 r2 q2) fun c s3 ⟨z, H3, I3, r3, q3⟩ => tru_ok pins s3 σ H3 z c Q I3 r3 (q3 (kd_inv I3))) hm
theorem pv_chain {op op' : CmpOp} {r r' : R2} (ho : OpR X (compareOp op) r) (ho' : OpR X (compareOp op') r') (ha : PE X a ta) (hb : PE X b tb) (hc : PE X c tc)
    (hm : lastMarks [op, op'] [b, c] = false) : PV X (.Compare a [op, op'] [b, c] pos) (tChain r r' ta tb tc) := by
  refine ⟨fun pins s σ H Q I h => ?_⟩
  refine isTrue_chain (thn (ha.run pins s σ H _ I h) fun v s1 ⟨x, H1, I1, r1, q1⟩ => test_link (thn (hb.run pins s1 σ H1 _ I1 q1) fun u s2 ⟨y, H2, I2, r2, q2⟩ =>
    thn (ho pins s2 σ H2 x y v u _ I2 r1 r2 q2) fun d s3 ⟨z, H3, I3, r3, k, e, q3⟩ => ?_)) hm
  subst e
  cases r3
  refine wpAny_truthy_bool ?_
  cases k with
  | false =>
    obtain ⟨k', e', q'⟩ := q3 (kd_inv I3)
    cases (show k' = false from e')
    exact ite_ff ⟨H3, I3, q'⟩
  | true =>
    exact ite_tt (test_last (thn (hc.run pins s3 σ H3 _ I3 q3) fun w' s4 ⟨z', H4, I4, r4, q4⟩ => thn (ho' pins s4 σ H4 y z' u w' _ I4 r2 r4 q4) fun c s5 ⟨z5, H5, I5, r5, q5⟩ => tru_ok pins s5 σ H5 z5 c Q I5 r5 (q5 (kd_inv I5))))
theorem pt_pv (h : PV X e t) (hl : isL m = true) (k : ∀ σ H Q, tE X.K G m σ H Q → t σ H fun v H' => KD X.K H' → Q v H') : PT X e (tTs X.K G m) :=
  ⟨fun pins s σ H Q I q => h.run pins s σ H Q I (k _ _ _ (tTs_tE hl q))⟩
end
end Mini

set_option Elab.async false
set_option linter.all false
set_option maxHeartbeats 1000000
/-! Mini: soundness of the expressions, second part: names, operators, displays. -/
namespace Mini
open PySem L2 PySem.Spec PyProof.Rows

section
variable {K : PySem.W.Frag} {B : Addr → Prop} {N N' : Addr → Prop} {σ σ' : L2.St} {H H' H1 H2 : Hp} {ρ ρ' ρ1 ρ2 : Rho} {O O' O1 O2 : Nat → List Addr} {S S' S1 S2 : Nat → Prop} {d : D} {v : V} {as bs : List Addr}
variable {G : Defs} {m a b c : ME} {Q : VK}
abbrev Kq (K : PySem.W.Frag) (Q : VK) : VK := fun v H' => KD K H' → Q v H'

theorem r_var {i : Nat} (h : tE K G (.var i) σ H Q) : tVar i σ H (Kq K Q) := by
  obtain ⟨B, ρ, O, sr, h⟩ := h
  simp only [ev, Out.sat_bind] at h
  obtain ⟨d, g, q⟩ := ownD_sat h
  obtain ⟨v, hv, o⟩ := sr.sl i 0 d g
  exact ⟨v, hv, fun _ => q v H O [] (.of0 sr Chg.refl ⟨rfl, o.2⟩)⟩
theorem r_bor {n i : Nat} (h : tE K G (.bor n i) σ H Q) : tVar i σ H (Kq K Q) := by
  obtain ⟨B, ρ, O, sr, h⟩ := h
  simp only [ev, Out.sat_bind] at h
  obtain ⟨d, g, q⟩ := ownD_sat h
  obtain ⟨v, hv, o⟩ := sr.sl i n d g
  refine ⟨v, hv, fun _ => q v H O [] (.of0 sr Chg.refl ?_)⟩
  unfold kd
  by_cases c : n = 0
  · subst c
    exact ⟨rfl, o.2⟩
  · rw [if_neg c]
    exact ⟨rfl, own_repB o⟩
theorem r_iou {n i : Nat} (h : tE K G (.iou n i) σ H Q) : tVar i σ H (Kq K Q) := by
  obtain ⟨B, ρ, O, sr, h⟩ := h
  simp only [ev, Out.sat_bind] at h
  obtain ⟨d, g, q⟩ := ownD_sat h
  obtain ⟨v, hv, o⟩ := sr.sl i n d g
  exact ⟨v, hv, fun _ => q v H O [] (.of0 sr Chg.refl ⟨rfl, hv⟩)⟩
theorem own_off (sr : SR K B σ H ρ O) {i : Nat} : ∀ a ∈ O i, ¬ NN (updO O i []) B a := fun a m h => by
  rcases nn_upd.mp h with (h | ⟨j, n, h⟩) | b
  · cases h
  · exact n (sr.dj j i a h m)
  · exact sr.nb i a m b
theorem chg_off {i : Nat} {x : Slot} (hi : i < ρ.length) (e : ∀ a ∈ as, a ∈ O i) : Chg (fun j => j ∈ [i]) H ρ O H (ρ.set i x) (updO O i as) := by
  refine ⟨fun j n => ?_, fun j a s h => .inl ?_, fun a o h _ => h, by rw [List.length_set]⟩
  · have n : j ≠ i := fun e => n (by simp [e])
    rw [getS_set hi, if_neg n, updO_ne n]
    exact ⟨rfl, rfl⟩
  · by_cases c : j = i
    · subst c
      rw [updO_same] at h
      exact ⟨j, s, e a h⟩
    · rw [updO_ne c] at h
      exact ⟨j, s, h⟩
theorem r_frz {i : Nat} (h : tE K G (.frz i) σ H Q) : tVar i σ H (Kq K Q) := by
  obtain ⟨B, ρ, O, sr, h⟩ := h
  simp only [ev] at h
  cases g : getS ρ i with
  | none => rw [g] at h; exact h.elim
  | some p =>
    obtain ⟨n, d⟩ := p
    rw [g] at h
    by_cases nd : noDict n d = true
    · simp only [if_pos nd] at h
      obtain ⟨v, hv, o⟩ := sr.sl i n d g
      have st : Stay K (NN O B) (NN (updO O i []) B) H H := stay_less (fun _ m => nomatch m)
      have r : Rep K (NN (updO O i []) B) H d v := own_rep nd (own_off sr) (own_stay st (fun _ _ _ e => e) o)
      refine ⟨v, hv, fun _ => h v H (updO O i []) [] (.of0 ?_ (chg_off (getS_lt g) (fun _ m => nomatch m)) ⟨rfl, r⟩)⟩
      exact sr.put st sr.kd (fun _ _ _ _ _ e => e) (getS_lt g) hv (fun _ _ => rfl) rfl ⟨rfl, r⟩ List.nodup_nil (fun _ m => nomatch m) sr.bt
    · simp only [if_neg nd] at h
      exact h.elim
theorem SR.dropP {i : Nat} (r : SR K B σ H ρ O) (hi : i < ρ.length) : SR K (pl B (O i)) σ H (ρ.set i none) (updO O i []) ∧ NN (updO O i []) (pl B (O i)) = NN O B := by
  have nn : NN (updO O i []) (pl B (O i)) = NN O B := by
    funext a
    refine propext ⟨?_, ?_⟩
    · intro h
      rcases nn_upd.mp h with (h | ⟨j, _, h⟩) | b | b
      · cases h
      · exact .inl ⟨j, h⟩
      · exact .inr b
      · exact .inl ⟨i, b⟩
    · rintro (⟨j, h⟩ | b)
      · by_cases c : j = i
        · subst c
          exact .inr (.inr h)
        · exact .inl ⟨j, by rw [updO_ne c]; exact h⟩
      · exact .inr (.inl b)
  have d := r.drop hi
  refine ⟨⟨d.kd, d.len, fun j k x e => ?_, d.em, d.dj, d.nd, fun j a h b => ?_, fun a b => ?_⟩, nn⟩
  · rw [getS_set hi] at e
    by_cases c : j = i
    · rw [if_pos c] at e; cases e
    · rw [if_neg c] at e
      rw [updO_ne c, nn]
      exact r.sl j k x e
  · rcases b with b | b
    · exact d.nb j a h b
    · by_cases c : j = i
      · rw [c, updO_same] at h; cases h
      · rw [updO_ne c] at h
        exact c (r.dj j i a h b)
  · rcases b with b | b
    · exact r.bt a b
    · exact r.tr (.inl ⟨i, b⟩)
theorem r_mov {n i : Nat} (h : tE K G (.mov n i) σ H Q) : tVar i σ H (Kq K Q) := by
  obtain ⟨B, ρ, O, sr, h⟩ := h
  simp only [ev, Out.sat_bind] at h
  obtain ⟨d, g, q⟩ := ownD_sat h
  obtain ⟨v, hv, o⟩ := sr.sl i n d g
  have st : Stay K (NN O B) (NN (updO O i []) B) H H := stay_less (fun _ m => nomatch m)
  obtain ⟨sr2, nn⟩ := sr.dropP (getS_lt g)
  exact ⟨v, hv, fun _ => q v H (updO O i []) (O i) ⟨sr.drop (getS_lt g), chg_off (getS_lt g) (fun _ m => nomatch m), own_stay st (fun _ _ _ e => e) o, ⟨sr.nd i, fun a m => ⟨own_off sr a m, .inl ⟨i, by simp [Ef, eff], m⟩⟩⟩, sr2, by rw [nn]; exact o⟩⟩
/-- a constant -/
theorem r_const {d : D} {v : V} (hm : ev G m = fun ρ => .ok (d, ρ)) (hk : kd m = .e 0) (r : ∀ N H, Rep K N H d v) (h : tE K G m σ H Q) : tC v σ H (Kq K Q) := by
  obtain ⟨B, ρ, O, sr, h⟩ := h
  rw [hm] at h
  exact fun _ => h v H O [] (.of0 sr Chg.refl (vr_rep hk (r _ _)))
theorem r_flat (hl : isL a = true) (h : tE K G (.flat a) σ H Q) : tE K G a σ H (Kq K Q) := by
  obtain ⟨B, ρ, O, sr, h⟩ := h
  simp only [ev, Out.sat_bind] at h
  refine ⟨B, ρ, O, sr, Out.sat_mono h fun ⟨d, ρ1⟩ _ h v H' O' as g _ => ?_⟩
  by_cases f : isFlat d = true
  · simp only [if_pos f] at h
    have lk := isL_look hl g.vr
    exact h v H' O' [] (.of0 g.sr g.ch ⟨rfl, flat_look f lk⟩)
  · simp only [if_neg f] at h
    exact h.elim
theorem rt_flat {Q : Bool → Hp → Prop} (h : tTs K G (.flat a) σ H Q) : tTs K G a σ H Q := by
  obtain ⟨B, ρ, O, sr, h⟩ := h
  simp only [ev, Out.sat_bind] at h
  refine ⟨B, ρ, O, sr, Out.sat_mono h fun ⟨d, ρ1⟩ _ h => ?_⟩
  by_cases f : isFlat d = true
  · simp only [if_pos f] at h
    exact h
  · simp only [if_neg f] at h
    exact h.elim
theorem r_neg (he : isE a = true) (h : tE K G (.op1 .neg a) σ H Q) : tUn (rU fun i => .int (-i)) (tE K G a) σ H (Kq K Q) := by
  obtain ⟨B, ρ, O, sr, h⟩ := h
  simp only [ev, Out.sat_bind] at h
  refine ⟨B, ρ, O, sr, Out.sat_mono h fun ⟨d, ρ1⟩ _ h v H' O' as g => ?_⟩
  have r := isE_rep he (fun a m => (g.fr.2 a m).1) g.vr
  cases d <;> first | exact False.elim h | skip
  cases r
  exact ⟨_, rfl, fun _ => h _ H' O' [] (.of0 g.sr g.ch ⟨rfl, rfl⟩)⟩
theorem r_not (hl : isL a = true) (h : tE K G (.op1 .not a) σ H Q) : tNotT K (tE K G a) σ H (Kq K Q) := by
  obtain ⟨B, ρ, O, sr, h⟩ := h
  simp only [ev, ev1, Out.sat_bind] at h
  refine ⟨B, ρ, O, sr, Out.sat_mono h fun ⟨d, ρ1⟩ _ h v H' O' as g => ?_⟩
  obtain ⟨b, e, q⟩ := sat_ok h
  exact ⟨b, look_truth (isL_look hl g.vr) e, fun _ => q _ H' O' [] (.of0 g.sr g.ch ⟨rfl, rfl⟩)⟩
theorem rt_not {Q : Bool → Hp → Prop} (h : tTs K G (.op1 .not a) σ H Q) : tNot (tTs K G a) σ H Q := by
  obtain ⟨B, ρ, O, sr, h⟩ := h
  simp only [ev, ev1, Out.sat_bind] at h
  refine ⟨B, ρ, O, sr, Out.sat_mono h fun ⟨d, ρ1⟩ _ h => Out.sat_mono h fun b e q H' O' r c => q H' O' r c⟩
theorem ef2l : ∀ j, Ef a j → j ∈ eff a ++ eff b := fun j h => List.mem_append_left _ h
theorem ef2r : ∀ j, Ef b j → j ∈ eff a ++ eff b := fun j h => List.mem_append_right _ h
theorem newv_result (hk : kd m = .e 0 ∨ kd m = .f) {z : D} (c : Chg (Ef m) H ρ O H1 ρ1 O1) (r : SR K B σ H1 ρ1 O1) (P : Pst K (NN O1 B) H1 z (fun v H' => ∀ O' as, Got K B σ m H ρ O z v as H' ρ1 O' → Q v H')) :
    Pst K (NN O1 B) H1 z (Kq K Q) := by
  intro v as H' n k
  obtain ⟨r', c', bs, vr, nd, fr, rs, vrs⟩ := newV_got (S := Ef m) hk r n k
  exact P v as H' n O1 bs ⟨r', c.trans c', vr, Fr.new c (fun _ h => h) nd fr, rs, vrs⟩
theorem r_op2 {o : Op2} (sb : sideB a b = true) (lb : isL b = true) (h : tE K G (.op2 o a b) σ H Q) : tOp (rD K o) (tE K G a) (tE K G b) σ H (Kq K Q) := by
  obtain ⟨B, ρ, O, sr, h⟩ := h
  simp only [ev, Out.sat_bind] at h
  refine ⟨B, ρ, O, sr, Out.sat_mono h fun ⟨x, ρ1⟩ _ h v H1 O1 as g => ?_⟩
  refine ⟨B, ρ1, O1, g.sr, Out.sat_mono h fun ⟨y, ρ2⟩ _ h w H2 O2 bs g2 => ?_⟩
  refine ⟨NN O2 B, x, y, side_look sb g.sr (fun a m => (g.fr.2 a m).1) g.vr g2.ch g2.sr, isL_look lb g2.vr, Out.sat_mono h fun z _ h => ?_⟩
  refine newv_result (m := .op2 o a b) (by cases o <;> simp [kd]) ((g.ch.mono ef2l).trans (g2.ch.mono ef2r)) g2.sr fun v as H' _ O' as' G' => h v H' O' as' G'
theorem pst_bool {z : D} {k : Bool} {Q : VK} (e : z = .bool k) (h : Q (.bl k) H) : Pst K N H z Q := by
  subst e
  intro v as H' n
  cases n with
  | same _ _ r => cases r; exact h
theorem plain_bool {o : Op2} {x y z : D} (p : plainC o = true) (e : ev2 o x y = .ok z) : ∃ k, z = .bool k := by
  cases o <;> first | cases p | skip
  · simp only [ev2] at e; by_cases q : SeqAt.shaped x = true ∧ SeqAt.shaped y = true
    · rw [if_pos q] at e; cases e; exact ⟨_, rfl⟩
    · rw [if_neg q] at e; cases e
  · simp only [ev2] at e; by_cases q : SeqAt.shaped x = true ∧ SeqAt.shaped y = true
    · rw [if_pos q] at e; cases e; exact ⟨_, rfl⟩
    · rw [if_neg q] at e; cases e
  all_goals (cases x <;> cases y <;> first | (cases e; exact ⟨_, rfl⟩) | cases e)
theorem r_chn {o o' : Op2} (p : plainC o = true) (p' : plainC o' = true) (ea : isE a = true) (eb : isE b = true) (ec : isE c = true) (h : tE K G (.chn o o' a b c) σ H Q) :
    tChain (rD K o) (rD K o') (tE K G a) (tE K G b) (tE K G c) σ H (Kq K Q) := by
  obtain ⟨B, ρ, O, sr, h⟩ := h
  simp only [ev, Out.sat_bind] at h
  refine ⟨B, ρ, O, sr, Out.sat_mono h fun ⟨x, ρ1⟩ _ h v H1 O1 as g => ?_⟩
  refine ⟨B, ρ1, O1, g.sr, Out.sat_mono h fun ⟨y, ρ2⟩ _ h w H2 O2 bs g2 => ?_⟩
  have rx := rep_stay (g.sr.stay g2.ch g2.sr) _ _ (isE_rep ea (fun a m => (g.fr.2 a m).1) g.vr)
  have ry := isE_rep eb (fun a m => (g2.fr.2 a m).1) g2.vr
  refine ⟨NN O2 B, x, y, rx.look, ry.look, Out.sat_mono h fun z ez h => ?_⟩
  have c12 : Chg (Ef (.chn o o' a b c)) H ρ O H2 ρ2 O2 := (g.ch.mono fun j s => by simp [Ef, eff, s]).trans (g2.ch.mono fun j s => by simp [Ef, eff, s])
  obtain ⟨k, rfl⟩ := plain_bool p ez
  refine pst_bool rfl ⟨k, rfl, ?_⟩
  cases k with
  | false => exact fun _ => h (.bl false) H2 O2 [] (.of0 g2.sr c12 ⟨rfl, rfl⟩)
  | true =>
    simp only [Out.sat_bind] at h
    refine ⟨B, ρ2, O2, g2.sr, Out.sat_mono h fun ⟨w', ρ3⟩ _ h u H3 O3 cs g3 => ?_⟩
    refine ⟨NN O3 B, y, w', (rep_stay (g2.sr.stay g3.ch g3.sr) _ _ ry).look, (isE_rep ec (fun a m => (g3.fr.2 a m).1) g3.vr).look, Out.sat_mono h fun z _ h => ?_⟩
    exact newv_result (m := .chn o o' a b c) (.inl rfl) (c12.trans (g3.ch.mono fun j s => by simp [Ef, eff, s])) g3.sr fun v as H' _ O' as' G' => h v H' O' as' G'
theorem got_sub {m' : ME} (hk : kd m = .e 0) (he : isE m' = true) (c : Chg (Ef m) H ρ O H1 ρ1 O1) (k : ∀ j, Ef m' j → Ef m j) (g : Got K B σ m' H1 ρ1 O1 d v as H2 ρ2 O2) : Got K B σ m H ρ O d v [] H2 ρ2 O2 :=
  .of0 g.sr (c.trans (g.ch.mono k)) (vr_rep hk (isE_rep he (fun a m => (g.fr.2 a m).1) g.vr))
theorem r_and (ea : isE a = true) (eb : isE b = true) (h : tE K G (.and a b) σ H Q) : tAndT K (tE K G a) (tE K G b) σ H (Kq K Q) := by
  obtain ⟨B, ρ, O, sr, h⟩ := h
  simp only [ev, Out.sat_bind] at h
  refine ⟨B, ρ, O, sr, Out.sat_mono h fun ⟨x, ρ1⟩ _ h v H1 O1 as g => ?_⟩
  obtain ⟨k, ek, h⟩ := sat_ok h
  refine ⟨k, look_truth (isL_look (isE_isL ea) g.vr) ek, ?_⟩
  cases k with
  | true =>
    refine ⟨B, ρ1, O1, g.sr, Out.sat_mono h fun ⟨y, ρ2⟩ _ h w H2 O2 bs g2 _ => ?_⟩
    exact h w H2 O2 [] (got_sub rfl eb (g.ch.mono ef2l) ef2r g2)
  | false => exact fun _ => h v H1 O1 [] (got_sub rfl ea Chg.refl ef2l g)
theorem r_or (ea : isE a = true) (eb : isE b = true) (h : tE K G (.or a b) σ H Q) : tOrT K (tE K G a) (tE K G b) σ H (Kq K Q) := by
  obtain ⟨B, ρ, O, sr, h⟩ := h
  simp only [ev, Out.sat_bind] at h
  refine ⟨B, ρ, O, sr, Out.sat_mono h fun ⟨x, ρ1⟩ _ h v H1 O1 as g => ?_⟩
  obtain ⟨k, ek, h⟩ := sat_ok h
  refine ⟨k, look_truth (isL_look (isE_isL ea) g.vr) ek, ?_⟩
  cases k with
  | false =>
    refine ⟨B, ρ1, O1, g.sr, Out.sat_mono h fun ⟨y, ρ2⟩ _ h w H2 O2 bs g2 _ => ?_⟩
    exact h w H2 O2 [] (got_sub rfl eb (g.ch.mono ef2l) ef2r g2)
  | true => exact fun _ => h v H1 O1 [] (got_sub rfl ea Chg.refl ef2l g)
theorem rt_and {Q : Bool → Hp → Prop} (h : tTs K G (.and a b) σ H Q) : tAnd (tTs K G a) (tTs K G b) σ H Q := by
  obtain ⟨B, ρ, O, sr, h⟩ := h
  simp only [ev, Out.sat_bind] at h
  refine ⟨B, ρ, O, sr, Out.sat_mono h fun ⟨x, ρ1⟩ _ h => ?_⟩
  refine Out.sat_mono h fun k ek h H1 O1 r1 c1 => ?_
  cases k with
  | true => exact ⟨B, ρ1, O1, r1, Out.sat_mono h fun ⟨y, ρ2⟩ _ h => Out.sat_mono h fun k _ q H2 O2 r2 c2 => q H2 O2 r2 ((c1.mono ef2l).trans (c2.mono ef2r))⟩
  | false =>
    have h : (truth x).sat _ := h
    rw [ek] at h
    exact h H1 O1 r1 (c1.mono ef2l)
theorem rt_or {Q : Bool → Hp → Prop} (h : tTs K G (.or a b) σ H Q) : tOr (tTs K G a) (tTs K G b) σ H Q := by
  obtain ⟨B, ρ, O, sr, h⟩ := h
  simp only [ev, Out.sat_bind] at h
  refine ⟨B, ρ, O, sr, Out.sat_mono h fun ⟨x, ρ1⟩ _ h => ?_⟩
  refine Out.sat_mono h fun k ek h H1 O1 r1 c1 => ?_
  cases k with
  | false => exact ⟨B, ρ1, O1, r1, Out.sat_mono h fun ⟨y, ρ2⟩ _ h => Out.sat_mono h fun k _ q H2 O2 r2 c2 => q H2 O2 r2 ((c1.mono ef2l).trans (c2.mono ef2r))⟩
  | true =>
    have h : (truth x).sat _ := h
    rw [ek] at h
    exact h H1 O1 r1 (c1.mono ef2l)
theorem r_ife (ea : isE a = true) (eb : isE b = true) (h : tE K G (.ife c a b) σ H Q) : tIf (tTs K G c) (tE K G a) (tE K G b) σ H (Kq K Q) := by
  obtain ⟨B, ρ, O, sr, h⟩ := h
  simp only [ev, Out.sat_bind] at h
  refine ⟨B, ρ, O, sr, Out.sat_mono h fun ⟨x, ρ1⟩ _ h => Out.sat_mono h fun k ek h H1 O1 r1 c1 => ?_⟩
  have c1' : Chg (Ef (.ife c a b)) H ρ O H1 ρ1 O1 := c1.mono fun j s => by simp [Ef, eff, s]
  cases k with
  | true => exact ⟨B, ρ1, O1, r1, Out.sat_mono h fun ⟨y, ρ2⟩ _ h w H2 O2 bs g2 _ => h w H2 O2 [] (got_sub rfl ea c1' (fun j s => by simp [Ef, eff, s]) g2)⟩
  | false => exact ⟨B, ρ1, O1, r1, Out.sat_mono h fun ⟨y, ρ2⟩ _ h w H2 O2 bs g2 _ => h w H2 O2 [] (got_sub rfl eb c1' (fun j s => by simp [Ef, eff, s]) g2)⟩
theorem rt_ife {Q : Bool → Hp → Prop} (h : tTs K G (.ife c a b) σ H Q) : tTs K G c σ H fun k H1 => if k = true then tTs K G a σ H1 Q else tTs K G b σ H1 Q := by
  obtain ⟨B, ρ, O, sr, h⟩ := h
  simp only [ev, Out.sat_bind] at h
  refine ⟨B, ρ, O, sr, Out.sat_mono h fun ⟨x, ρ1⟩ _ h => Out.sat_mono h fun k ek h H1 O1 r1 c1 => ?_⟩
  have c1' : Chg (Ef (.ife c a b)) H ρ O H1 ρ1 O1 := c1.mono fun j s => by simp [Ef, eff, s]
  cases k with
  | true => exact ⟨B, ρ1, O1, r1, Out.sat_mono h fun ⟨y, ρ2⟩ _ h => Out.sat_mono h fun k _ q H2 O2 r2 c2 => q H2 O2 r2 (c1'.trans (c2.mono fun j s => by simp [Ef, eff, s]))⟩
  | false => exact ⟨B, ρ1, O1, r1, Out.sat_mono h fun ⟨y, ρ2⟩ _ h => Out.sat_mono h fun k _ q H2 O2 r2 c2 => q H2 O2 r2 (c1'.trans (c2.mono fun j s => by simp [Ef, eff, s]))⟩

/-! ### lists of expressions -/
theorem ar_allE : ∀ {es : ME} {ds : List D} {vs : List V} {as : List Addr}, allE es = true → (∀ a ∈ as, ¬ N a) → AR K N σ H (listM es) ds vs as → All2 (Rep K N H) ds vs ∧ ds.length = lenM es := by
  intro es
  induction es with
  | nil =>
    intro ds vs as _ _ h
    cases ds <;> cases vs <;> first | exact h.elim | exact ⟨rfl, rfl⟩
  | cons m es _ ih =>
    intro ds vs as e k h
    rw [allE, Bool.and_eq_true] at e
    cases ds <;> cases vs <;> first | exact h.elim | skip
    obtain ⟨a1, a2, rfl, h1, h2⟩ := h
    obtain ⟨t, l⟩ := ih e.2 (fun a m => k a (List.mem_append_right _ m)) h2
    exact ⟨⟨_, _, rfl, isE_rep e.1 (fun a m => k a (List.mem_append_left _ m)) h1, t⟩, by simp [l, lenM]⟩
  | _ => intro _ _ _ e; cases e
theorem r_nil {Q : List V → Hp → Prop} (h : tAr K G .nil σ H Q) : tNil σ H Q := by
  obtain ⟨B, ρ, O, sr, h⟩ := h
  exact h [] [] H O [] rfl ⟨sr, Chg.refl, rfl, Fr.nil, by rw [pl_nil]; exact sr, rfl⟩
theorem r_cons {es : ME} {Q : List V → Hp → Prop} (nb : notB m es = true) (h : tAr K G (.cons m es) σ H Q) : tCons (tE K G m) (tAr K G es) σ H Q := by
  obtain ⟨B, ρ, O, sr, h⟩ := h
  simp only [ev, Out.sat_bind] at h
  refine ⟨B, ρ, O, sr, Out.sat_mono h fun ⟨x, ρ1⟩ _ h v H1 O1 as g => ?_⟩
  refine ⟨pl B as, ρ1, O1, g.srs, Out.sat_mono h fun ⟨l, ρ2⟩ _ h ds vs H2 O2 bs e g2 => ?_⟩
  simp only at e
  subst e
  have fa : ∀ a ∈ as, ¬ NN O1 B a := fun a m => (g.fr.2 a m).1
  have r2 := g2.sr.le (B := B) pl_le
  obtain ⟨vr, fa2⟩ := vr_keep nb g.sr g2.ch r2 fa g.vr
  have ot := vr_ot g.vr
  have kp : ∀ a ∈ as, ∀ o, H1 a = some o → H2 a = some o := fun a m o e => g2.ch.pres a o e fun i _ hi => fa a m (.inl ⟨i, hi⟩)
  have f2 := g2.fr.back (S2 := Ef (.cons m es)) g.ch ef2l ef2r
  have stS : Stay K (NN O1 (pl B as)) (NN O2 (pl (pl B as) bs)) H1 H2 := stay_pl (g.srs.stay g2.ch g2.sr) fun a m => (g2.fr.2 a m).2.imp (fun ⟨i, _, q⟩ => .inl ⟨i, q⟩) id
  refine h (x :: ds) (v :: vs) H2 O2 (as ++ bs) rfl ⟨r2, (g.ch.mono ef2l).trans (g2.ch.mono ef2r), ⟨as, bs, rfl, vr, ar_weak (nn_le pl_le) g2.ar⟩, ?_, by rw [← pl_app]; exact g2.srs, as, bs, rfl, ?_, ?_⟩
  · refine ⟨List.nodup_append.mpr ⟨g.fr.1, g2.fr.1, fun a ha b hb e => ?_⟩, fun a ha => ?_⟩
    · subst e
      exact (g2.fr.2 a hb).1 (.inr (.inr ha))
    · rcases List.mem_append.mp ha with ha | ha
      · exact ⟨fa2 a ha, (g.fr.2 a ha).2.imp (fun ⟨i, s, x⟩ => ⟨i, ef2l i s, x⟩) id⟩
      · exact ⟨fun n => (f2.2 a ha).1 (nn_le pl_le a n), (f2.2 a ha).2⟩
  · rw [← pl_app]
    exact vr_move nb g2.ch stS kp g.vrs
  · rw [← pl_app]
    exact g2.ars
theorem r_tup {es : ME} (ha : allE es = true) (hl : lenM es ≤ LIM) (h : tE K G (.tup es) σ H Q) : tTup (tAr K G es) σ H (Kq K Q) := by
  obtain ⟨B, ρ, O, sr, h⟩ := h
  simp only [ev, Out.sat_bind] at h
  refine ⟨B, ρ, O, sr, Out.sat_mono h fun ⟨l, ρ1⟩ _ h ds vs H1 O1 as e g => ?_⟩
  simp only at e
  subst e
  obtain ⟨t, n⟩ := ar_allE ha (fun a m => (g.fr.2 a m).1) g.ar
  refine ⟨by rw [← t.length, n]; exact lim_line hl, fun p hp => ?_⟩
  exact newv_result (m := .tup es) (.inl rfl) g.ch g.sr (fun v as H' _ O' as' G' => h v H' O' as' G') _ _ _ (.tup hp t)
theorem r_lst {es : ME} (ha : allE es = true) (hl : lenM es ≤ LIM) (h : tE K G (.lst es) σ H Q) : tLst (tAr K G es) σ H (Kq K Q) := by
  obtain ⟨B, ρ, O, sr, h⟩ := h
  simp only [ev] at h
  refine ⟨B, ρ, O, sr, Out.sat_mono h fun ⟨l, ρ1⟩ _ h ds vs H1 O1 as e g => ?_⟩
  simp only at e
  subst e
  obtain ⟨t, n⟩ := ar_allE ha (fun a m => (g.fr.2 a m).1) g.ar
  refine ⟨by rw [← t.length, n]; exact lim_line hl, fun p hp => ?_⟩
  exact newv_result (m := .lst es) (.inr rfl) g.ch g.sr (fun v as H' _ O' as' G' => h v H' O' as' G') _ _ _ (.lst hp t)

/-! ### subscripts -/
theorem r_sub (sb : sideB a b = true) (eb : isE b = true) (h : tE K G (.sub a b) σ H Q) : tOp (rSubD K) (tE K G a) (tE K G b) σ H (Kq K Q) := by
  obtain ⟨B, ρ, O, sr, h⟩ := h
  simp only [ev, Out.sat_bind] at h
  refine ⟨B, ρ, O, sr, Out.sat_mono h fun ⟨x, ρ1⟩ _ h v H1 O1 as g => ?_⟩
  refine ⟨B, ρ1, O1, g.sr, Out.sat_mono h fun ⟨y, ρ2⟩ _ h w H2 O2 bs g2 => ?_⟩
  refine ⟨NN O2 B, x, y, side_look sb g.sr (fun a m => (g.fr.2 a m).1) g.vr g2.ch g2.sr, isE_rep eb (fun a m => (g2.fr.2 a m).1) g2.vr, Out.sat_mono h fun z _ h w r _ => ?_⟩
  exact h w H2 O2 [] (.of0 g2.sr ((g.ch.mono ef2l).trans (g2.ch.mono ef2r)) ⟨rfl, r⟩)
theorem r_rev (hl : isL a = true) (h : tE K G (.rev a) σ H Q) : tRevL K (tE K G a) σ H (Kq K Q) := by
  obtain ⟨B, ρ, O, sr, h⟩ := h
  simp only [ev, Out.sat_bind] at h
  refine ⟨B, ρ, O, sr, Out.sat_mono h fun ⟨x, ρ1⟩ _ h v H1 O1 as g => ?_⟩
  have lk := isL_look hl g.vr
  cases x <;> first | exact False.elim h | skip
  obtain ⟨p, xs, rfl, sx, tx⟩ := lk
  refine ⟨p, xs, rfl, sx, fun q hq => ?_⟩
  exact newv_result (m := .rev a) (.inr rfl) g.ch g.sr (fun v as H' _ O' as' G' => h v H' O' as' G') _ _ _ (.lst hq tx.reverse)
/-- a part of a slice -/
def tP (K : PySem.W.Frag) (G : Defs) (m : ME) : TO := fun σ H Q => ∃ B ρ O, SR K B σ H ρ O ∧ (ev G m ρ).sat fun r => ∃ i, asInt r.1 = some i ∧ ∀ H' O', SR K B σ H' r.2 O' → Chg (Ef m) H ρ O H' r.2 O' → Q i H'
theorem tP_part (he : isE m = true) {Q : Option Int → Hp → Prop} (nn : ∀ ρ r, ev G m ρ = .ok r → True) (h : tP K G m σ H Q) : tE K G m σ H (fun x H1 => ∃ o, (match o with | none => x = .non | some i => x = .int i) ∧ Q o H1) := by
  obtain ⟨B, ρ, O, sr, h⟩ := h
  refine ⟨B, ρ, O, sr, Out.sat_mono h fun ⟨d, ρ1⟩ _ ⟨i, e, q⟩ v H' O' as g => ?_⟩
  have r := isE_rep he (fun a m => (g.fr.2 a m).1) g.vr
  refine ⟨i, ?_, q H' O' g.sr g.ch⟩
  cases d <;> first | (cases e; exact r) | cases e
theorem r_slc {lo hi : ME} (s1 : sideB a lo = true) (s2 : sideB a hi = true) (h : tE K G (.slc a lo hi) σ H Q) : tSl (rSlcD K) (tE K G a) (tP K G lo) (tP K G hi) σ H (Kq K Q) := by
  obtain ⟨B, ρ, O, sr, h⟩ := h
  simp only [ev, Out.sat_bind] at h
  refine ⟨B, ρ, O, sr, Out.sat_mono h fun ⟨x, ρ1⟩ _ h v H1 O1 as g => ?_⟩
  refine ⟨B, ρ1, O1, g.sr, Out.sat_mono h fun ⟨l, ρ2⟩ _ h => ?_⟩
  obtain ⟨⟨u, ρ3⟩, eu, h⟩ := sat_ok h
  cases el : asInt l with
  | none => simp only [el] at h; exact h.elim
  | some i =>
    cases ej : asInt u with
    | none => simp only [el, ej] at h; exact h.elim
    | some j =>
      simp only [el, ej, Out.sat_bind] at h
      refine ⟨i, rfl, fun H2 O2 r2 c2 => ⟨B, ρ2, O2, r2, ?_⟩⟩
      rw [eu]
      refine ⟨j, ej, fun H3 O3 r3 c3 => ?_⟩
      have fa : ∀ y ∈ as, ¬ NN O1 B y := fun a m => (g.fr.2 a m).1
      have lk : Look K (NN O3 B) H3 x v := by
        unfold sideB at s1 s2
        rw [Bool.or_eq_true] at s1 s2
        rcases s1 with s1 | s1
        · exact (rep_stay (r2.stay c3 r3) _ _ (rep_stay (g.sr.stay c2 r2) _ _ (isE_rep s1 fa g.vr))).look
        · rcases s2 with s2 | s2
          · exact (rep_stay (r2.stay c3 r3) _ _ (rep_stay (g.sr.stay c2 r2) _ _ (isE_rep s2 fa g.vr))).look
          · rw [Bool.and_eq_true] at s1 s2
            exact look_keep (r2.stay c3 r3) (c3.all (eff_nil s2.2)) (look_keep (g.sr.stay c2 r2) (c2.all (eff_nil s1.2)) (isL_look s1.1 g.vr))
      refine ⟨NN O3 B, x, lk, Out.sat_mono h fun z _ h => ?_⟩
      exact newv_result (m := .slc a lo hi) (.inr rfl) (((g.ch.mono fun j s => by simp [Ef, eff, s]).trans (c2.mono fun j s => by simp [Ef, eff, s])).trans (c3.mono fun j s => by simp [Ef, eff, s])) r3 fun v as H' _ O' as' G' => h v H' O' as' G'
end
end Mini

set_option Elab.async false
set_option linter.all false
set_option maxHeartbeats 1000000
/-! Mini: soundness of the expressions, third part: calls. -/
namespace Mini
open PySem L2 PySem.Spec PyProof.Rows

/-! ### no star in a checked list -/
theorem star_any {env : Env} {pos : Pos} : ∀ {xs : List Expr}, (∀ x ∈ xs, star x = false) → (backTo pos (starEach xs env)).any (·.1) = false
  | [], _ => rfl
  | x :: xs, h => by
    have e := h x List.mem_cons_self
    have ih := star_any (env := env) (pos := pos) (xs := xs) fun y hy => h y (List.mem_cons_of_mem _ hy)
    cases x <;> first | (cases e; done) | (exact ih)
theorem star_cons {env : Env} {x : Expr} {xs : List Expr} (h : star x = false) : starEach (x :: xs) env = (false, eval x env) :: starEach xs env := by
  cases x <;> first | (cases h; done) | rfl
theorem ck_stars {C : CkP} {N : List Str} {sc : Scope} : ∀ {es : ME} {xs : List Expr}, ck C N es sc (.a xs) = true → ∀ x ∈ xs, star x = false := by
  intro es
  induction es with
  | nil =>
    intro xs h
    cases xs with
    | nil => intro x h; cases h
    | cons y ys => cases h
  | cons m es _ ih =>
    intro xs h
    cases xs with
    | nil => cases h
    | cons y ys =>
      simp only [ck, ckCons, Bool.and_eq_true, Bool.not_eq_true'] at h
      intro x hx
      rcases List.mem_cons.mp hx with rfl | hx
      · exact h.1
      · exact ih h.2.2.1 x hx
  | op1 o a _ => intro xs h; cases o <;> cases h
  | blt b es _ =>
    intro xs h
    have e : ck C N (.blt b es) sc (.a xs) = false := by
      cases b <;> first | rfl | skip
      clear h
      revert xs
      cases es <;> first | (intro xs; rfl) | skip
      rename_i m es _
      intro xs
      cases es <;> rfl
    rw [e] at h
    cases h
  | _ => intro xs h; cases h

section
variable {K : PySem.W.Frag} {B : Addr → Prop} {N N' : Addr → Prop} {σ σ' : L2.St} {H H' H1 H2 H3 : Hp} {ρ ρ' ρ1 ρ2 ρ3 : Rho} {O O' O1 O2 O3 : Nat → List Addr} {S S' S1 S2 : Nat → Prop} {d : D} {v : V} {as bs : List Addr}
variable {G : Defs} {m a b c : ME} {Q : VK}

/-! ### built-ins -/
theorem ar_allL : ∀ {es : ME} {ds : List D} {vs : List V} {as : List Addr}, allL es = true → (∀ a ∈ as, ¬ N a) → AR K N σ H (listM es) ds vs as → All2 (Look K N H) ds vs := by
  intro es
  induction es with
  | nil =>
    intro ds vs as _ _ h
    cases ds <;> cases vs <;> first | exact h.elim | rfl
  | cons m es _ ih =>
    intro ds vs as e k h
    cases ds <;> cases vs <;> first | exact h.elim | skip
    obtain ⟨a1, a2, rfl, h1, h2⟩ := h
    have one : isL m = true ∧ allL es = true := by
      cases es <;> first | exact ⟨e, rfl⟩ | (unfold allL at e; rw [Bool.and_eq_true] at e; exact ⟨isE_isL e.1, e.2⟩)
    exact ⟨_, _, rfl, isL_look one.1 h1, ih one.2 (fun a m => k a (List.mem_append_right _ m)) h2⟩
  | _ => intro _ _ _ e; cases e
theorem r_blt {b : Blt} {es : ME} (hl : allL es = true) (h : tE K G (.blt b es) σ H Q) : tCB (rB K b) (tAr K G es) σ H (Kq K Q) := by
  obtain ⟨B, ρ, O, sr, h⟩ := h
  simp only [ev, Out.sat_bind] at h
  refine ⟨B, ρ, O, sr, Out.sat_mono h fun ⟨l, ρ1⟩ _ h ds vs H1 O1 as e g => ?_⟩
  simp only at e
  subst e
  simp only [Out.sat_bind] at h
  refine ⟨NN O1 B, ds, ar_allL hl (fun a m => (g.fr.2 a m).1) g.ar, Out.sat_mono h fun z _ h => ?_⟩
  exact newv_result (m := .blt b es) (by cases b <;> simp [kd]) g.ch g.sr fun v as H' _ O' as' G' => h v H' O' as' G'
theorem r_isi {ts : List String} (he : isE m = true) (h : tE K G (.blt (.isi ts) (.cons m .nil)) σ H Q) :
    tE K G m σ H fun x H1 => ∃ N d, (∀ l, d ≠ .dict l) ∧ Look K N H1 d x ∧ ∀ p, (H1 p = none ∨ ts.length = 1) → (ts.length ≠ 1 → Kq K Q (.bl (isiD d ts)) (upd H1 p (.tup (ts.map V.ty)))) ∧ (Kq K Q (.bl (isiD d ts)) H1) := by
  obtain ⟨B, ρ, O, sr, h⟩ := h
  simp only [ev, Out.sat_bind] at h
  refine ⟨B, ρ, O, sr, Out.sat_mono h fun ⟨d, ρ1⟩ _ h v H1 O1 as g => ?_⟩
  have r := isE_rep he (fun a m => (g.fr.2 a m).1) g.vr
  have nd : ∀ l, d ≠ .dict l := fun l e => by subst e; exact r.elim
  have h : ∀ v H' O' as, Got K B σ (.blt (.isi ts) (.cons m .nil)) H ρ O (.bool (isiD d ts)) v as H' ρ1 O' → Q v H' := by
    cases d <;> first | exact h | exact (nd _ rfl).elim
  have ch : Chg (Ef (.blt (.isi ts) (.cons m .nil))) H ρ O H1 ρ1 O1 := g.ch.mono fun j s => by simp [Ef, eff, s]
  refine ⟨NN O1 B, d, nd, r.look, fun p hp => ⟨fun hn k => ?_, fun _ => h _ H1 O1 [] (.of0 g.sr ch ⟨rfl, rfl⟩)⟩⟩
  rcases hp with hp | hp
  · exact h _ _ O1 [] (.of0 (g.sr.laid hp k) (ch.trans (Chg.laid hp)) ⟨rfl, rfl⟩)
  · exact absurd hp hn

/-! ### permutations -/
theorem permL_rel {α β : Type} {l : List α} {l' : List β} (e : l.length = l'.length) : ∀ (kw : List Nat), (permL l kw).length = (permL l' kw).length ∧ ∀ (j : Nat) (x : α), (permL l kw)[j]? = some x → ∃ (i : Nat) (y : β), l[i]? = some x ∧ l'[i]? = some y ∧ (permL l' kw)[j]? = some y
  | [] => ⟨rfl, fun j x h => by simp [permL] at h⟩
  | i :: kw => by
    obtain ⟨h1, h2⟩ := permL_rel e kw
    unfold permL at h1 h2 ⊢
    rw [List.filterMap_cons, List.filterMap_cons]
    by_cases c : i < l.length
    · have c' : i < l'.length := by omega
      rw [List.getElem?_eq_getElem c, List.getElem?_eq_getElem c']
      refine ⟨by simp [h1], fun j x h => ?_⟩
      cases j with
      | zero =>
        simp at h
        subst h
        exact ⟨i, l'[i], List.getElem?_eq_getElem c, List.getElem?_eq_getElem c', by simp⟩
      | succ j => simpa using h2 j x (by simpa using h)
    · rw [List.getElem?_eq_none (by omega), List.getElem?_eq_none (by omega)]
      exact ⟨h1, h2⟩
theorem permL_vals {vs : List V} {us : List Value} (r : Vals vs us) : ∀ kw : List Nat, Vals (permL vs kw) (permL us kw)
  | [] => .nil
  | i :: kw => by
    have ih := permL_vals r kw
    unfold permL at ih ⊢
    rw [List.filterMap_cons, List.filterMap_cons]
    cases e : vs[i]? with
    | none => rw [r.none_of e]; exact ih
    | some x =>
      obtain ⟨u, e2, ru⟩ := r.get e
      rw [e2]
      exact .cons ru ih
/-- results by their places -/
def AW (K : PySem.W.Frag) (N : Addr → Prop) (σ : L2.St) (H : Hp) (ms : List ME) (ds : List D) (vs : List V) : Prop :=
  ms.length = ds.length ∧ ms.length = vs.length ∧ ∀ (i : Nat) (m : ME) (d : D) (v : V), ms[i]? = some m → ds[i]? = some d → vs[i]? = some v → ∃ a, VR K N σ H (kd m) d v a ∧ ∀ x ∈ a, ¬ N x
theorem ar_aw : ∀ {ms : List ME} {ds : List D} {vs : List V} {as : List Addr}, (∀ x ∈ as, ¬ N x) → AR K N σ H ms ds vs as → AW K N σ H ms ds vs
  | [], [], [], _, _, _ => ⟨rfl, rfl, fun i m d v e => by simp at e⟩
  | m :: ms, d :: ds, v :: vs, _, k, ⟨a1, a2, e, h1, h2⟩ => by
    subst e
    obtain ⟨l1, l2, h⟩ := ar_aw (fun x hx => k x (List.mem_append_right _ hx)) h2
    refine ⟨by simp [l1], by simp [l2], fun i m' d' v' e1 e2 e3 => ?_⟩
    cases i with
    | zero =>
      simp at e1 e2 e3
      subst e1 e2 e3
      exact ⟨a1, h1, fun x hx => k x (List.mem_append_left _ hx)⟩
    | succ i => exact h i m' d' v' (by simpa using e1) (by simpa using e2) (by simpa using e3)
  | [], [], _ :: _, _, _, h => h.elim
  | [], _ :: _, _, _, _, h => h.elim
  | _ :: _, [], _, _, _, h => h.elim
  | _ :: _, _ :: _, [], _, _, h => h.elim
theorem aw_append {ms ms' : List ME} {ds ds' : List D} {vs vs' : List V} (h : AW K N σ H ms ds vs) (h' : AW K N σ H ms' ds' vs') : AW K N σ H (ms ++ ms') (ds ++ ds') (vs ++ vs') := by
  obtain ⟨l1, l2, h⟩ := h
  obtain ⟨l1', l2', h'⟩ := h'
  refine ⟨by simp [l1, l1'], by simp [l2, l2'], fun i m d v e1 e2 e3 => ?_⟩
  by_cases c : i < ms.length
  · rw [List.getElem?_append_left c] at e1
    rw [List.getElem?_append_left (by omega)] at e2
    rw [List.getElem?_append_left (by omega)] at e3
    exact h i m d v e1 e2 e3
  · rw [List.getElem?_append_right (by omega)] at e1
    rw [List.getElem?_append_right (by omega), ← l1] at e2
    rw [List.getElem?_append_right (by omega), ← l2] at e3
    exact h' _ m d v e1 e2 e3
theorem aw_perm {ms : List ME} {ds : List D} {vs : List V} (kw : List Nat) (h : AW K N σ H ms ds vs) : AW K N σ H (permL ms kw) (permL ds kw) (permL vs kw) := by
  obtain ⟨l1, l2, h⟩ := h
  refine ⟨(permL_rel l1 kw).1, (permL_rel l2 kw).1, fun j m d v e1 e2 e3 => ?_⟩
  -- the three lists in one
  have both : ∀ (kw : List Nat) (j : Nat) (m : ME), (permL ms kw)[j]? = some m → ∃ (i : Nat) (d : D) (v : V), ms[i]? = some m ∧ ds[i]? = some d ∧ vs[i]? = some v ∧ (permL ds kw)[j]? = some d ∧ (permL vs kw)[j]? = some v := by
    intro kw
    induction kw with
    | nil => intro j m e; simp [permL] at e
    | cons i kw ih =>
      intro j m e
      unfold permL at e ih ⊢
      rw [List.filterMap_cons] at e
      rw [List.filterMap_cons, List.filterMap_cons]
      by_cases c : i < ms.length
      · have c1 : i < ds.length := by omega
        have c2 : i < vs.length := by omega
        rw [List.getElem?_eq_getElem c] at e
        rw [List.getElem?_eq_getElem c1, List.getElem?_eq_getElem c2]
        cases j with
        | zero =>
          simp at e
          subst e
          exact ⟨i, ds[i], vs[i], List.getElem?_eq_getElem c, List.getElem?_eq_getElem c1, List.getElem?_eq_getElem c2, by simp, by simp⟩
        | succ j => simpa using ih j m (by simpa using e)
      · have q1 : ms[i]? = none := List.getElem?_eq_none (by omega)
        have q2 : ds[i]? = none := List.getElem?_eq_none (by omega)
        have q3 : vs[i]? = none := List.getElem?_eq_none (by omega)
        rw [q1] at e
        rw [q2, q3]
        exact ih j m e
  obtain ⟨i, d', v', h1, h2, h3, h4, h5⟩ := both kw j m e1
  rw [e2] at h4
  rw [e3] at h5
  cases h4
  cases h5
  exact h i m _ _ h1 h2 h3
/-- the results of a list stand behind a run -/
theorem ar_keep {es : ME} (r1 : SR K B σ H1 ρ1 O1) (c : Chg (Ef es) H1 ρ1 O1 H2 ρ2 O2) (r2 : SR K B σ H2 ρ2 O2) : ∀ {ms : List ME} {ds : List D} {vs : List V} {as : List Addr}, (∀ m ∈ ms, isBk m = false) → (∀ a ∈ as, ¬ NN O1 B a) → AR K (NN O1 B) σ H1 ms ds vs as →
    AR K (NN O2 B) σ H2 ms ds vs as ∧ ∀ a ∈ as, ¬ NN O2 B a
  | [], [], [], _, _, _, h => ⟨h, by cases h; intro a m; cases m⟩
  | m :: ms, d :: ds, v :: vs, _, nb, k, ⟨a1, a2, e, h1, h2⟩ => by
    subst e
    have nb1 : notB m es = true := by
      have q := nb m List.mem_cons_self
      unfold isBk at q
      unfold notB
      split
      · rename_i n e
        rw [e] at q
        cases q
      · rfl
    obtain ⟨q1, q2⟩ := vr_keep nb1 r1 c r2 (fun x hx => k x (List.mem_append_left _ hx)) h1
    obtain ⟨q3, q4⟩ := ar_keep r1 c r2 (fun m hm => nb m (List.mem_cons_of_mem _ hm)) (fun x hx => k x (List.mem_append_right _ hx)) h2
    refine ⟨⟨a1, a2, rfl, q1, q3⟩, fun a m => ?_⟩
    rcases List.mem_append.mp m with m | m
    · exact q2 a m
    · exact q4 a m
  | [], [], _ :: _, _, _, _, h => h.elim
  | [], _ :: _, _, _, _, _, h => h.elim
  | _ :: _, [], _, _, _, _, h => h.elim
  | _ :: _, _ :: _, [], _, _, _, h => h.elim

/-! ### the places handed on -/
theorem mem_ios : ∀ {io : List (Option (Nat × Nat))} {i : Nat}, i ∈ iosOf io ↔ ∃ (j : Nat) (n : Nat), io[j]? = some (some (n, i))
  | [], i => by simp [iosOf]
  | none :: r, i => by
    rw [iosOf, mem_ios]
    constructor
    · rintro ⟨j, n, h⟩; exact ⟨j + 1, n, by simpa using h⟩
    · rintro ⟨j, n, h⟩
      cases j with
      | zero => simp at h
      | succ j => exact ⟨j, n, by simpa using h⟩
  | some p :: r, i => by
    rw [iosOf, List.mem_cons, mem_ios]
    constructor
    · rintro (rfl | ⟨j, n, h⟩)
      · exact ⟨0, p.1, by simp⟩
      · exact ⟨j + 1, n, by simpa using h⟩
    · rintro ⟨j, n, h⟩
      cases j with
      | zero => simp at h; exact .inl (by rw [h])
      | succ j => exact .inr ⟨j, n, by simpa using h⟩
theorem ios_inj : ∀ {io : List (Option (Nat × Nat))} {j k n n' i : Nat}, (iosOf io).Nodup → io[j]? = some (some (n, i)) → io[k]? = some (some (n', i)) → j = k
  | [], j, _, _, _, _, _, h, _ => by simp at h
  | none :: r, j, k, n, n', i, nd, h, h' => by
    cases j with
    | zero => simp at h
    | succ j =>
      cases k with
      | zero => simp at h'
      | succ k => exact congrArg Nat.succ (ios_inj (io := r) (n := n) (n' := n') (i := i) nd (by simpa using h) (by simpa using h'))
  | some p :: r, j, k, n, n', i, nd, h, h' => by
    rw [iosOf, List.nodup_cons] at nd
    cases j with
    | zero =>
      cases k with
      | zero => rfl
      | succ k =>
        simp at h h'
        exact absurd (mem_ios.mpr ⟨k, n', by rw [h]; exact h'⟩) nd.1
    | succ j =>
      cases k with
      | zero =>
        simp at h h'
        exact absurd (mem_ios.mpr ⟨j, n, by rw [h']; exact h⟩) nd.1
      | succ k => exact congrArg Nat.succ (ios_inj (io := r) (n := n) (n' := n') (i := i) nd.2 (by simpa using h) (by simpa using h'))
theorem refresh_ok : ∀ {io : List (Option (Nat × Nat))} {l zs : List D}, refresh ρ io l = .ok zs → zs.length = io.length ∧ l.length = io.length ∧ (∀ j : Nat, io[j]? = some none → zs[j]? = l[j]?) ∧ ∀ j n i : Nat, io[j]? = some (some (n, i)) → ∃ d, getS ρ i = some (n, d) ∧ zs[j]? = some d
  | [], [], zs, h => by cases h; simp
  | [], _ :: _, _, h => by cases h
  | none :: io, [], _, h => by cases h
  | some p :: io, [], _, h => by obtain ⟨n, i⟩ := p; cases h
  | none :: io, d :: r, zs, h => by
    unfold refresh at h
    cases e : refresh ρ io r with
    | bad => rw [e] at h; cases h
    | ok ws =>
      rw [e] at h
      cases h
      obtain ⟨h1, h2, h3, h4⟩ := refresh_ok e
      refine ⟨by simp [h1], by simp [h2], fun j hj => ?_, fun j n i hj => ?_⟩
      · cases j with
        | zero => rfl
        | succ j => simpa using h3 j (by simpa using hj)
      · cases j with
        | zero => simp at hj
        | succ j => simpa using h4 j n i (by simpa using hj)
  | some (n, i) :: io, d :: r, zs, h => by
    unfold refresh at h
    have hs : ((ownD ρ n i).sat fun d => True) ∨ ownD ρ n i = .bad := by cases ownD ρ n i <;> first | exact .inl trivial | exact .inr rfl
    rcases hs with hs | hs
    · obtain ⟨d', g, _⟩ := ownD_sat hs
      have eo : ownD ρ n i = .ok d' := by unfold ownD; rw [g]; simp
      rw [eo] at h
      cases e : refresh ρ io r with
      | bad => rw [e] at h; cases h
      | ok ws =>
        rw [e] at h
        cases h
        obtain ⟨h1, h2, h3, h4⟩ := refresh_ok e
        refine ⟨by simp [h1], by simp [h2], fun j hj => ?_, fun j n i hj => ?_⟩
        · cases j with
          | zero => simp at hj
          | succ j => simpa using h3 j (by simpa using hj)
        · cases j with
          | zero => simp at hj; obtain ⟨rfl, rfl⟩ := hj; exact ⟨d', g, rfl⟩
          | succ j => simpa using h4 j n i (by simpa using hj)
    · rw [hs] at h; cases h
theorem ioOk_get : ∀ {io : List (Option (Nat × Nat))} {ms : List ME}, ioOk io ms = true → ms.length = io.length ∧ (∀ (j : Nat) (m : ME), ms[j]? = some m → io[j]? = some none → isE m = true) ∧ ∀ (j : Nat) (m : ME) (n i : Nat), ms[j]? = some m → io[j]? = some (some (n, i)) → m = .iou n i ∧ n ≠ 0
  | [], [], _ => ⟨rfl, fun j m e => by simp at e, fun j m n i e => by simp at e⟩
  | [], _ :: _, h => by cases h
  | none :: _, [], h => by cases h
  | some (_, _) :: _, [], h => by cases h
  | none :: r, m :: es, h => by
    rw [ioOk, Bool.and_eq_true] at h
    obtain ⟨l, h1, h2⟩ := ioOk_get h.2
    refine ⟨by simp [l], fun j m' e e' => ?_, fun j m' n i e e' => ?_⟩
    · cases j with
      | zero => simp at e; subst e; exact h.1
      | succ j => exact h1 j m' (by simpa using e) (by simpa using e')
    · cases j with
      | zero => simp at e'
      | succ j => exact h2 j m' n i (by simpa using e) (by simpa using e')
  | some (n, i) :: r, m :: es, h => by
    rw [ioOk, Bool.and_eq_true, Bool.and_eq_true] at h
    obtain ⟨l, h1, h2⟩ := ioOk_get h.2
    refine ⟨by simp [l], fun j m' e e' => ?_, fun j m' n' i' e e' => ?_⟩
    · cases j with
      | zero => simp at e'
      | succ j => exact h1 j m' (by simpa using e) (by simpa using e')
    · cases j with
      | zero =>
        simp at e e'
        subst e
        obtain ⟨rfl, rfl⟩ := e'
        have q := h.1.1
        cases m <;> first | (exact absurd q Bool.false_ne_true) | skip
        rename_i k j
        simp [iouB] at q
        obtain ⟨rfl, rfl⟩ := q
        exact ⟨rfl, by simpa using h.1.2⟩
      | succ j => exact h2 j m' n' i' (by simpa using e) (by simpa using e')
theorem back_get {ρ' : Rho} : ∀ {io : List (Option (Nat × Nat))} {k : Nat} {os : List D} {ρ ρ3 : Rho}, (∀ j n i : Nat, io[j]? = some (some (n, i)) → n ≠ 0 ∧ i < ρ.length) → outsOf ρ' k (io.map ioLv) = .ok os → putBack ρ io os = .ok ρ3 → (iosOf io).Nodup →
    ρ3.length = ρ.length ∧ (∀ i, i ∉ iosOf io → getS ρ3 i = getS ρ i) ∧ ∀ j n i : Nat, io[j]? = some (some (n, i)) → ∃ d, getS ρ' (k + j) = some (n, d) ∧ getS ρ3 i = some (n, d)
  | [], k, os, ρ, ρ3, _, h1, h2, _ => by
    cases h1
    cases h2
    exact ⟨rfl, fun _ _ => rfl, fun j n i e => by simp at e⟩
  | none :: io, k, os, ρ, ρ3, hn, h1, h2, nd => by
    have h1 : outsOf ρ' (k + 1) (io.map ioLv) = .ok os := h1
    have h2 : putBack ρ io os = .ok ρ3 := h2
    obtain ⟨l, a1, a2⟩ := back_get (fun j n i e => hn (j + 1) n i (by simpa using e)) h1 h2 nd
    refine ⟨l, a1, fun j n i e => ?_⟩
    cases j with
    | zero => simp at e
    | succ j =>
      obtain ⟨d, b1, b2⟩ := a2 j n i (by simpa using e)
      exact ⟨d, by rw [show k + (j + 1) = k + 1 + j by omega]; exact b1, b2⟩
  | some (n, i) :: io, k, os, ρ, ρ3, hn, h1, h2, nd => by
    obtain ⟨n0, hi⟩ := hn 0 n i (by simp)
    rw [iosOf, List.nodup_cons] at nd
    cases n with
    | zero => exact absurd rfl n0
    | succ n =>
      have h1 : (do let d ← ownD ρ' (n + 1) k; .ok (d :: (← outsOf ρ' (k + 1) (io.map ioLv))) : Out (List D)) = .ok os := h1
      have hs : ((ownD ρ' (n + 1) k).sat fun d => True) ∨ ownD ρ' (n + 1) k = .bad := by cases ownD ρ' (n + 1) k <;> first | exact .inl trivial | exact .inr rfl
      rcases hs with hs | hs
      · obtain ⟨d', g, _⟩ := ownD_sat hs
        have eo : ownD ρ' (n + 1) k = .ok d' := by unfold ownD; rw [g]; simp
        rw [eo] at h1
        cases e : outsOf ρ' (k + 1) (io.map ioLv) with
        | bad => rw [e] at h1; cases h1
        | ok ws =>
          rw [e] at h1
          cases h1
          have h2 : putBack (ρ.set i (some (n + 1, d'))) io ws = .ok ρ3 := h2
          obtain ⟨l, a1, a2⟩ := back_get (ρ := ρ.set i (some (n + 1, d'))) (fun j n i e => by
            have := hn (j + 1) n i (by simpa using e)
            rw [List.length_set]
            exact this) e h2 nd.2
          rw [List.length_set] at l
          refine ⟨l, fun j hj => ?_, fun j m i' e => ?_⟩
          · rw [iosOf, List.mem_cons, not_or] at hj
            rw [a1 j hj.2, getS_set hi, if_neg hj.1]
          · cases j with
            | zero =>
              simp at e
              obtain ⟨rfl, rfl⟩ := e
              refine ⟨d', g, ?_⟩
              rw [a1 i nd.1, getS_set hi, if_pos rfl]
            | succ j =>
              obtain ⟨d, b1, b2⟩ := a2 j m i' (by simpa using e)
              exact ⟨d, by rw [show k + (j + 1) = k + 1 + j by omega]; exact b1, b2⟩
      · rw [hs] at h1; cases h1
end
end Mini

set_option Elab.async false
set_option linter.all false
set_option maxHeartbeats 1000000
/-! Mini: soundness of the expressions, fourth part: the call of a def. -/
namespace Mini
open PySem L2 PySem.Spec PyProof.Rows

section
variable {K : PySem.W.Frag} {B Bc : Addr → Prop} {N N' : Addr → Prop} {σ σ' : L2.St} {H H' H1 H2 H3 : Hp} {ρ ρ' ρ1 ρ2 ρ3 : Rho} {O O' O1 O2 O3 Oc : Nat → List Addr} {S S' S1 S2 : Nat → Prop} {d : D} {v : V} {as bs : List Addr}
variable {G : Defs} {m a b c : ME} {Q : VK} {io : List (Option (Nat × Nat))} {zs os : List D} {ws : List V}

open Classical in
/-- what the places own behind a call -/
noncomputable def backO (io : List (Option (Nat × Nat))) (O O' : Nat → List Addr) : Nat → List Addr := fun i =>
  if h : ∃ j n, io[j]? = some (some (n, i)) then O' h.choose else O i
theorem backO_in (nd : (iosOf io).Nodup) {j n i : Nat} (h : io[j]? = some (some (n, i))) : backO io O O' i = O' j := by
  have q : ∃ j n, io[j]? = some (some (n, i)) := ⟨j, n, h⟩
  unfold backO
  rw [dif_pos q]
  obtain ⟨n', e⟩ := q.choose_spec
  rw [ios_inj nd e h]
theorem backO_out {i : Nat} (h : i ∉ iosOf io) : backO io O O' i = O i := dif_neg fun ⟨j, n, e⟩ => h (mem_ios.mpr ⟨j, n, e⟩)
/-- what the callee's places own -/
def callO (io : List (Option (Nat × Nat))) (O : Nat → List Addr) : Nat → List Addr := fun j => match io[j]? with
  | some (some p) => O p.2
  | _ => []
/-- what stands above the callee -/
def callB (io : List (Option (Nat × Nat))) (O : Nat → List Addr) (B : Addr → Prop) : Addr → Prop := fun a => B a ∨ ∃ i, i ∉ iosOf io ∧ a ∈ O i
theorem callO_some {j n i : Nat} (h : io[j]? = some (some (n, i))) : callO io O j = O i := by unfold callO; rw [h]
theorem callO_mem {j : Nat} {x : Addr} (h : x ∈ callO io O j) : ∃ n i, io[j]? = some (some (n, i)) ∧ x ∈ O i := by
  unfold callO at h
  split at h
  · rename_i p e
    exact ⟨p.1, p.2, e, h⟩
  · cases h
theorem nn_call : NN (callO io O) (callB io O B) = NN O B := by
  funext x
  refine propext ⟨?_, ?_⟩
  · rintro (⟨j, h⟩ | b | ⟨i, _, h⟩)
    · obtain ⟨n, i, _, h⟩ := callO_mem h
      exact .inl ⟨i, h⟩
    · exact .inr b
    · exact .inl ⟨i, h⟩
  · rintro (⟨i, h⟩ | b)
    · by_cases c : i ∈ iosOf io
      · obtain ⟨j, n, e⟩ := mem_ios.mp c
        exact .inl ⟨j, by rw [callO_some e]; exact h⟩
      · exact .inr (.inr ⟨i, c, h⟩)
    · exact .inr (.inl b)
theorem getS_args {l : List (Nat × D)} {j : Nat} : getS (l.map some) j = l[j]? := by
  unfold getS
  rw [List.getElem?_map]
  cases l[j]? <;> rfl
theorem io_lv {j n : Nat} (h : (io.map ioLv)[j]? = some n) : (io[j]? = some none ∧ n = 0) ∨ ∃ i, io[j]? = some (some (n, i)) := by
  rw [List.getElem?_map] at h
  cases e : io[j]? with
  | none => rw [e] at h; cases h
  | some p =>
    rw [e] at h
    cases p with
    | none => cases h; exact .inl ⟨rfl, rfl⟩
    | some q => cases h; exact .inr ⟨q.2, rfl⟩
/-- the callee's frame at the call -/
theorem sr_call (r : SR K B σ H ρ O) (nd : (iosOf io).Nodup) (e1 : zs.length = io.length) (e2 : ws.length = io.length)
    (hn : ∀ (j : Nat) (d : D) (v : V), io[j]? = some none → zs[j]? = some d → ws[j]? = some v → Rep K (NN O B) H d v)
    (hs : ∀ (j n i : Nat), io[j]? = some (some (n, i)) → ∃ d, getS ρ i = some (n, d) ∧ zs[j]? = some d ∧ ∀ v, ws[j]? = some v → σ[i]? = some (some v)) :
    SR K (callB io O B) (ws.map some) H (((io.map ioLv).zip zs).map some) (callO io O) := by
  refine ⟨r.kd, by simp [e1, e2], fun j n d e => ?_, fun j e => ?_, fun j k x h1 h2 => ?_, fun j => ?_, fun j x h => ?_, fun x b => ?_⟩
  · rw [getS_args, List.getElem?_zip_eq_some] at e
    obtain ⟨e3, e4⟩ := e
    have hj : j < ws.length := by
      rw [e2, ← e1]
      exact (List.getElem?_eq_some_iff.mp e4).1
    have ew : ws[j]? = some ws[j] := List.getElem?_eq_getElem hj
    refine ⟨ws[j], by rw [List.getElem?_map, ew]; rfl, ?_⟩
    rw [nn_call]
    rcases io_lv e3 with ⟨e5, rfl⟩ | ⟨i, e5⟩
    · refine ⟨?_, hn j d _ e5 e4 ew⟩
      unfold callO
      rw [e5]
    · obtain ⟨d', g, h1, h2⟩ := hs j n i e5
      rw [e4] at h1
      cases h1
      obtain ⟨v, h3, o⟩ := r.sl i n d g
      have h4 := h2 _ ew
      rw [h3] at h4
      cases h4
      rw [callO_some e5]
      exact o
  · rw [getS_args] at e
    have hj : ¬ j < io.length := fun hj => by
      have h1 : j < (io.map ioLv).length := by simpa using hj
      have h2 : j < zs.length := by omega
      have : ((io.map ioLv).zip zs)[j]? = some ((io.map ioLv)[j], zs[j]) := List.getElem?_zip_eq_some.mpr ⟨List.getElem?_eq_getElem h1, List.getElem?_eq_getElem h2⟩
      rw [e] at this
      cases this
    unfold callO
    rw [List.getElem?_eq_none (by omega)]
  · obtain ⟨n, i, q1, h1⟩ := callO_mem h1
    obtain ⟨n', i', q2, h2⟩ := callO_mem h2
    have e := r.dj i i' x h1 h2
    subst e
    exact ios_inj nd q1 q2
  · unfold callO
    split
    · exact r.nd _
    · exact List.nodup_nil
  · obtain ⟨n, i, q1, h1⟩ := callO_mem h
    rintro (b | ⟨k, hk, h2⟩)
    · exact r.nb i x h1 b
    · have e := r.dj i k x h1 h2
      subst e
      exact hk (mem_ios.mpr ⟨j, n, q1⟩)
  · rcases b with b | ⟨k, _, h⟩
    · exact r.bt x b
    · exact r.tr (.inl ⟨k, h⟩)
theorem sm_io (hn : ∀ j n i : Nat, io[j]? = some (some (n, i)) → n ≠ 0) {j : Nat} : Sm (io.map ioLv) j ↔ ∃ n i, io[j]? = some (some (n, i)) := by
  constructor
  · rintro ⟨n, e⟩
    rcases io_lv e with ⟨_, h⟩ | ⟨i, h⟩
    · cases h
    · exact ⟨_, i, h⟩
  · rintro ⟨n, i, e⟩
    have n0 := hn j n i e
    cases n with
    | zero => exact absurd rfl n0
    | succ n => exact ⟨n, by rw [List.getElem?_map, e]; rfl⟩
/-- the caller's frame behind the call -/
theorem sr_back {args : Rho} (r : SR K B σ H ρ O) (nd : (iosOf io).Nodup) (hn0 : ∀ j n i : Nat, io[j]? = some (some (n, i)) → n ≠ 0 ∧ i < ρ.length)
    (hσ : ∀ j n i : Nat, io[j]? = some (some (n, i)) → ∃ v, ws[j]? = some v ∧ σ[i]? = some (some v))
    (rc : SR K (callB io O B) (ws.map some) H args (callO io O)) (rc' : SR K (callB io O B) (ws.map some) H' ρ' O') (c : Chg (Sm (io.map ioLv)) H args (callO io O) H' ρ' O')
    (ho : outsOf ρ' 0 (io.map ioLv) = .ok os) (hp : putBack ρ io os = .ok ρ3) :
    SR K B σ H' ρ3 (backO io O O') ∧ Chg (fun i => i ∈ iosOf io) H ρ O H' ρ3 (backO io O O') ∧ NN O' (callB io O B) = NN (backO io O O') B := by
  have sm : ∀ {j : Nat}, Sm (io.map ioLv) j ↔ ∃ n i, io[j]? = some (some (n, i)) := sm_io fun j n i e => (hn0 j n i e).1
  have outc : ∀ {j : Nat}, (¬ ∃ n i, io[j]? = some (some (n, i))) → O' j = [] := fun {j} h => by
    rw [(c.same j fun s => h (sm.mp s)).2]
    unfold callO
    split
    · rename_i p e
      exact absurd ⟨p.1, p.2, e⟩ h
    · rfl
  have memc : ∀ {j : Nat} {x : Addr}, x ∈ O' j → ∃ n i, io[j]? = some (some (n, i)) := fun {j x} h => Classical.byContradiction fun q => by
    rw [outc q] at h
    cases h
  have nn : NN O' (callB io O B) = NN (backO io O O') B := by
    funext x
    refine propext ⟨?_, ?_⟩
    · rintro (⟨j, h⟩ | b | ⟨i, hi, h⟩)
      · obtain ⟨n, i, e⟩ := memc h
        exact .inl ⟨i, by rw [backO_in nd e]; exact h⟩
      · exact .inr b
      · exact .inl ⟨i, by rw [backO_out hi]; exact h⟩
    · rintro (⟨i, h⟩ | b)
      · by_cases q : i ∈ iosOf io
        · obtain ⟨j, n, e⟩ := mem_ios.mp q
          rw [backO_in nd e] at h
          exact .inl ⟨j, h⟩
        · rw [backO_out q] at h
          exact .inr (.inr ⟨i, q, h⟩)
      · exact .inr (.inl b)
  obtain ⟨l3, keep3, new3⟩ := back_get hn0 ho hp nd
  have st : Stay K (NN O B) (NN (backO io O O') B) H H' := by
    have s := rc.stay c rc'
    rw [nn_call, nn] at s
    exact s
  have presO : ∀ i, i ∉ iosOf io → ∀ x ∈ O i, ∀ o, H x = some o → H' x = some o := fun i hi x hx o e => c.pres x o e fun j _ hj => by
    obtain ⟨n, k, q, h⟩ := callO_mem hj
    have e := r.dj i k x hx h
    subst e
    exact hi (mem_ios.mpr ⟨j, n, q⟩)
  refine ⟨⟨rc'.kd, by rw [l3]; exact r.len, fun i n d e => ?_, fun i e => ?_, fun i k x h1 h2 => ?_, fun i => ?_, fun i x h => ?_, fun x b => rc'.bt x (.inl b)⟩, ⟨fun i hi => ⟨keep3 i hi, backO_out hi⟩, fun i x hi h => ?_, fun x o e h => ?_, l3⟩, nn⟩
  · by_cases q : i ∈ iosOf io
    · obtain ⟨j, n', e2⟩ := mem_ios.mp q
      obtain ⟨d', g1, g2⟩ := new3 j n' i e2
      rw [g2] at e
      cases e
      rw [Nat.zero_add] at g1
      obtain ⟨v, h1, o⟩ := rc'.sl j _ _ g1
      obtain ⟨w, h2, h3⟩ := hσ j _ i e2
      rw [List.getElem?_map, h2] at h1
      cases h1
      refine ⟨v, h3, ?_⟩
      rw [backO_in nd e2, ← nn]
      exact o
    · rw [keep3 i q] at e
      obtain ⟨v, h1, o⟩ := r.sl i n d e
      refine ⟨v, h1, ?_⟩
      rw [backO_out q]
      exact own_stay st (presO i q) o
  · by_cases q : i ∈ iosOf io
    · obtain ⟨j, n', e2⟩ := mem_ios.mp q
      obtain ⟨d', g1, g2⟩ := new3 j n' i e2
      rw [g2] at e
      cases e
    · rw [keep3 i q] at e
      rw [backO_out q]
      exact r.em i e
  · by_cases q : i ∈ iosOf io
    · obtain ⟨j, n, e⟩ := mem_ios.mp q
      rw [backO_in nd e] at h1
      by_cases q' : k ∈ iosOf io
      · obtain ⟨j', n', e'⟩ := mem_ios.mp q'
        rw [backO_in nd e'] at h2
        have := rc'.dj j j' x h1 h2
        subst this
        rw [e] at e'
        cases e'
        rfl
      · rw [backO_out q'] at h2
        exact absurd (.inr ⟨k, q', h2⟩) (rc'.nb j x h1)
    · rw [backO_out q] at h1
      by_cases q' : k ∈ iosOf io
      · obtain ⟨j', n', e'⟩ := mem_ios.mp q'
        rw [backO_in nd e'] at h2
        exact absurd (.inr ⟨i, q, h1⟩) (rc'.nb j' x h2)
      · rw [backO_out q'] at h2
        exact r.dj i k x h1 h2
  · by_cases q : i ∈ iosOf io
    · obtain ⟨j, n, e⟩ := mem_ios.mp q
      rw [backO_in nd e]
      exact rc'.nd j
    · rw [backO_out q]
      exact r.nd i
  · by_cases q : i ∈ iosOf io
    · obtain ⟨j, n, e⟩ := mem_ios.mp q
      rw [backO_in nd e] at h
      exact fun b => rc'.nb j x h (.inl b)
    · rw [backO_out q] at h
      exact r.nb i x h
  · obtain ⟨j, n, e⟩ := mem_ios.mp hi
    rw [backO_in nd e] at h
    rcases c.fresh j x (sm.mpr ⟨n, i, e⟩) h with ⟨k, sk, hk⟩ | z
    · obtain ⟨n', i', q, hx⟩ := callO_mem hk
      exact .inl ⟨i', mem_ios.mpr ⟨k, n', q⟩, hx⟩
    · exact .inr z
  · refine c.pres x o e fun j _ hj => ?_
    obtain ⟨n, i, q, hx⟩ := callO_mem hj
    exact h i (mem_ios.mpr ⟨j, n, q⟩) hx

theorem nn_pl {a : Addr} : NN O (pl B as) a ↔ NN O B a ∨ a ∈ as := by
  unfold NN pl
  constructor
  · rintro (h | h | h)
    · exact .inl (.inl h)
    · exact .inl (.inr h)
    · exact .inr h
  · rintro ((h | h) | h)
    · exact .inl h
    · exact .inr (.inl h)
    · exact .inr (.inr h)
/-- .. the result among what is owned by others -/
theorem sr_backS {args : Rho} (r : SR K B σ H ρ O) (nd : (iosOf io).Nodup) (hn0 : ∀ j n i : Nat, io[j]? = some (some (n, i)) → n ≠ 0 ∧ i < ρ.length)
    (hσ : ∀ j n i : Nat, io[j]? = some (some (n, i)) → ∃ v, ws[j]? = some v ∧ σ[i]? = some (some v))
    (rc : SR K (callB io O B) (ws.map some) H args (callO io O)) (rc' : SR K (pl (callB io O B) as) (ws.map some) H' ρ' O') (c : Chg (Sm (io.map ioLv)) H args (callO io O) H' ρ' O')
    (ho : outsOf ρ' 0 (io.map ioLv) = .ok os) (hp : putBack ρ io os = .ok ρ3) (fr : ∀ a ∈ as, ¬ NN O' (callB io O B) a ∧ (NN O B a ∨ H a = none)) :
    SR K (pl B as) σ H' ρ3 (backO io O O') ∧ NN O' (pl (callB io O B) as) = NN (backO io O O') (pl B as) := by
  obtain ⟨r3, c3, nn⟩ := sr_back r nd hn0 hσ rc (rc'.le pl_le) c ho hp
  have nnS : NN O' (pl (callB io O B) as) = NN (backO io O O') (pl B as) := by
    funext a
    refine propext (nn_pl.trans (Iff.trans ?_ nn_pl.symm))
    rw [nn]
  have fr' : ∀ a ∈ as, ¬ NN (backO io O O') B a := fun a h => by rw [← nn]; exact (fr a h).1
  have st : Stay K (NN O B) (NN (backO io O O') (pl B as)) H H' := by
    have s := rc.stay c (rc'.le pl_le)
    rw [nn_call, nn] at s
    exact stay_pl s fun a h => (fr a h).2
  obtain ⟨l3, keep3, new3⟩ := back_get hn0 ho hp nd
  refine ⟨⟨r3.kd, r3.len, fun i n d e => ?_, r3.em, r3.dj, r3.nd, fun i a h b => ?_, fun a b => ?_⟩, nnS⟩
  · by_cases q : i ∈ iosOf io
    · obtain ⟨j, n', e2⟩ := mem_ios.mp q
      obtain ⟨d', g1, g2⟩ := new3 j n' i e2
      rw [g2] at e
      cases e
      rw [Nat.zero_add] at g1
      obtain ⟨v, h1, o⟩ := rc'.sl j _ _ g1
      obtain ⟨w, h2, h3⟩ := hσ j _ i e2
      rw [List.getElem?_map, h2] at h1
      cases h1
      refine ⟨v, h3, ?_⟩
      rw [backO_in nd e2, ← nnS]
      exact o
    · rw [keep3 i q] at e
      obtain ⟨v, h1, o⟩ := r.sl i n d e
      refine ⟨v, h1, ?_⟩
      rw [backO_out q]
      exact own_stay st (fun x hx o e => c.pres x o e fun j _ hj => by
        obtain ⟨n, k, q2, h⟩ := callO_mem hj
        have e := r.dj i k x hx h
        subst e
        exact q (mem_ios.mpr ⟨j, n, q2⟩)) o
  · rcases b with b | b
    · exact r3.nb i a h b
    · exact fr' a b (.inl ⟨i, h⟩)
  · rcases b with b | b
    · exact r3.bt a b
    · exact rc'.bt a (.inr b)
theorem ar_len : ∀ {ms : List ME} {ds : List D} {vs : List V} {as : List Addr}, AR K N σ H ms ds vs as → ms.length = ds.length ∧ ms.length = vs.length
  | [], [], [], _, _ => ⟨rfl, rfl⟩
  | m :: ms, d :: ds, v :: vs, _, ⟨a1, a2, _, _, h2⟩ => by
    obtain ⟨h3, h4⟩ := ar_len h2
    exact ⟨by simp [h3], by simp [h4]⟩
  | [], [], _ :: _, _, h => h.elim
  | [], _ :: _, _, _, h => h.elim
  | _ :: _, [], _, _, h => h.elim
  | _ :: _, _ :: _, [], _, h => h.elim
theorem r_call {f r : Nat} {es ks : ME} {kw : List Nat} {df : Df} (hret : df.ret = r) (hms : io.map ioLv = df.ms) (hl : io.length = df.ps.length) (hio : ioOk io (permL (listM es ++ listM ks) kw) = true)
    (nb : ∀ m ∈ listM es, isBk m = false) (nd : (iosOf io).Nodup) (h : tE K G (.call f r io es ks kw) σ H Q) :
    tAr K G es σ H fun vs H1 => vs.length = (listM es).length ∧ tAr K G ks σ H1 fun us H2 => us.length = (listM ks).length ∧ spD K df (G f) (permL (vs ++ us) kw) H2 (Kq K Q) := by
  obtain ⟨B, ρ, O, sr, h⟩ := h
  simp only [ev, Out.sat_bind] at h
  refine ⟨B, ρ, O, sr, Out.sat_mono h fun ⟨l, ρ1⟩ _ h ds vs H1 O1 as e g => ?_⟩
  simp only at e
  subst e
  refine ⟨(ar_len g.ar).2.symm, B, ρ1, O1, g.sr, Out.sat_mono h fun ⟨l2, ρ2⟩ _ h cs us H2 O2 bs e g2 => ?_⟩
  simp only at e
  subst e
  refine ⟨(ar_len g2.ar).2.symm, ?_⟩
  simp only [Out.sat_bind] at h
  obtain ⟨zs, ez, h⟩ := sat_ok h
  obtain ⟨z1, z2, z3, z4⟩ := refresh_ok ez
  obtain ⟨i1, i2, i3⟩ := ioOk_get hio
  obtain ⟨k1, k2⟩ := ar_keep g.sr g2.ch g2.sr nb (fun a m => (g.fr.2 a m).1) g.ar
  have aw := aw_perm kw (aw_append (ar_aw k2 k1) (ar_aw (fun a m => (g2.fr.2 a m).1) g2.ar))
  obtain ⟨l1, l2, aw⟩ := aw
  have hw : (permL (vs ++ us) kw).length = io.length := by rw [← l2, i1]
  have getm : ∀ {j : Nat}, j < io.length → ∃ m, (permL (listM es ++ listM ks) kw)[j]? = some m := fun {j} hj => ⟨_, List.getElem?_eq_getElem (by rw [i1]; exact hj)⟩
  have rc : SR K (callB io O2 B) ((permL (vs ++ us) kw).map some) H2 (((io.map ioLv).zip zs).map some) (callO io O2) := by
    refine sr_call g2.sr nd z1 hw (fun j d v e e2 e3 => ?_) (fun j n i e => ?_)
    · obtain ⟨m, em⟩ := getm (List.getElem?_eq_some_iff.mp e).1
      rw [z3 j e] at e2
      obtain ⟨a, vr, fr⟩ := aw j m d v em e2 e3
      exact isE_rep (i2 j m em e) fr vr
    · obtain ⟨d, g3, e2⟩ := z4 j n i e
      refine ⟨d, g3, e2, fun v e3 => ?_⟩
      obtain ⟨m, em⟩ := getm (List.getElem?_eq_some_iff.mp e).1
      obtain ⟨hm, _⟩ := i3 j m n i em e
      subst hm
      obtain ⟨d', e4⟩ : ∃ d', (permL (ds ++ cs) kw)[j]? = some d' := ⟨_, List.getElem?_eq_getElem (by rw [← l1, i1]; exact (List.getElem?_eq_some_iff.mp e).1)⟩
      obtain ⟨a, vr, _⟩ := aw j _ d' v em e4 e3
      exact vr.2
  have hn0 : ∀ j n i : Nat, io[j]? = some (some (n, i)) → n ≠ 0 ∧ i < ρ2.length := fun j n i e => by
    obtain ⟨m, em⟩ := getm (List.getElem?_eq_some_iff.mp e).1
    obtain ⟨d, g3, _⟩ := z4 j n i e
    exact ⟨(i3 j m n i em e).2, getS_lt g3⟩
  have hσ : ∀ j n i : Nat, io[j]? = some (some (n, i)) → ∃ v, (permL (vs ++ us) kw)[j]? = some v ∧ σ[i]? = some (some v) := fun j n i e => by
    obtain ⟨m, em⟩ := getm (List.getElem?_eq_some_iff.mp e).1
    obtain ⟨hm, _⟩ := i3 j m n i em e
    subst hm
    have hj := (List.getElem?_eq_some_iff.mp e).1
    have e3 : (permL (vs ++ us) kw)[j]? = some _ := List.getElem?_eq_getElem (by rw [hw]; exact hj)
    obtain ⟨d', e4⟩ : ∃ d', (permL (ds ++ cs) kw)[j]? = some d' := ⟨_, List.getElem?_eq_getElem (by rw [← l1, i1]; exact hj)⟩
    obtain ⟨a, vr, _⟩ := aw j _ d' _ em e4 e3
    exact ⟨_, e3, vr.2⟩
  rw [hms] at rc
  refine ⟨callB io O2 B, zs, callO io O2, rc, by rw [← hms, z1, List.length_map], by rw [hw, hl], Out.sat_mono h fun ⟨d, os⟩ _ h v H' ρ' O' cs' rc' c ho own fr rcS ownS k => ?_⟩
  obtain ⟨ρ3, e3, h⟩ := sat_ok h
  rw [← hms] at c ho fr rc
  obtain ⟨r3, c3, nn⟩ := sr_back g2.sr nd hn0 hσ rc rc' c ho e3
  obtain ⟨rS, nnS⟩ := sr_backS g2.sr nd hn0 hσ rc rcS c ho e3 fun a h => ⟨(fr.2 a h).1, (fr.2 a h).2.imp (fun ⟨j, _, hj⟩ => by
    obtain ⟨n, i, _, hx⟩ := callO_mem hj
    exact .inl ⟨i, hx⟩) id⟩
  rw [nnS] at ownS
  have chg : Chg (Ef (.call f r io es ks kw)) H ρ O H' ρ3 (backO io O2 O') := ((g.ch.mono fun j s => by simp [Ef, eff, s]).trans (g2.ch.mono fun j s => by simp [Ef, eff, s])).trans (c3.mono fun j s => by simp [Ef, eff, s])
  rw [nn] at own fr
  refine h v H' (backO io O2 O') cs' ⟨r3, chg, by rw [← hret]; exact own, ?_, rS, by rw [← hret]; exact ownS⟩
  have f1 : Fr (NN (backO io O2 O') B) (fun i => i ∈ iosOf io) O2 H2 cs' := ⟨fr.1, fun a m => ⟨(fr.2 a m).1, (fr.2 a m).2.imp (fun ⟨j, _, hj⟩ => by
    obtain ⟨n, i, q, hx⟩ := callO_mem hj
    exact ⟨i, mem_ios.mpr ⟨j, n, q⟩, hx⟩) id⟩⟩
  exact Fr.back ((g.ch.mono fun j s => by simp [Ef, eff, s] : Chg (Ef (.call f r io es ks kw)) H ρ O H1 ρ1 O1).trans (g2.ch.mono fun j s => by simp [Ef, eff, s])) f1 (fun _ s => s) (fun j s => by simp [Ef, eff, s])
end

section
variable {X : Cx} {x : Str} {p pos : Pos} {es : List Expr} {kws : List Keyword} {t tk : TA} {df : Df} {fd : FuncData} {k : Nat} {a : Addr} {sem : List D → Out (D × List D)}
/-- a call as a reading -/
def tCallD (K : PySem.W.Frag) (df : Df) (sem : List D → Out (D × List D)) (kw : List Nat) (n1 n2 : Nat) (t tk : TA) : TE := fun σ H Q => t σ H fun vs H1 => vs.length = n1 ∧ tk σ H1 fun us H2 => us.length = n2 ∧ spD K df sem (permL (vs ++ us) kw) H2 Q
theorem kw_all {env : Env} {pos : Pos} : ∀ {kws : List Keyword} {ns : List Str}, kwNames kws = some ns → (backToKw pos (keywordEach kws env)).all (·.1.isSome) = true ∧ (backToKw pos (keywordEach kws env)).filterMap (·.1) = ns ∧ (backToKw pos (keywordEach kws env)).any (·.1.isNone) = false
  | [], ns, h => by cases h; exact ⟨rfl, rfl, rfl⟩
  | ⟨none, _, _⟩ :: _, _, h => by cases h
  | ⟨some y, v, q⟩ :: r, ns, h => by
    simp only [kwNames, Option.map_eq_some_iff] at h
    obtain ⟨ms, e, rfl⟩ := h
    obtain ⟨h1, h2, h3⟩ := kw_all (env := env) (pos := pos) e
    refine ⟨?_, ?_, ?_⟩
    · show (true && (backToKw pos (keywordEach r env)).all (·.1.isSome)) = true
      rw [h1]; rfl
    · show y :: (backToKw pos (keywordEach r env)).filterMap (·.1) = _
      rw [h2]
    · show (false || (backToKw pos (keywordEach r env)).any (·.1.isNone)) = false
      rw [h3]; rfl
theorem run_fnG {pins : List (Addr × Obj)} {σ : L2.St} {H : Hp} {s : Shared} {Q : VK} {us ws : List Value} {vs zs : List V} {ns : List Str} {kw : List Nat} (F : FnG X.prog X.w X.K X.mg X.base k a fd df.ps (spD X.K df sem)) (hr : Room k X.A) (hg : X.A.guards = some [])
    (hb : BindOk X.K fd df) (hp : (us.length, ns, kw) ∈ df.kws) (hz : ws.length = ns.length) (I : Inv X pins σ H s) (r : Vals vs us) (rz : Vals zs ws) (h : spD X.K df sem (permL (vs ++ zs) kw) H Q) :
    wpAny (model X.prog X.w) X.A (call (.ref a) us (ns.zip ws)) (EP X pins σ Q) X.xe s := by
  refine wpAny_call (codeAny_mono (F.run X.A X.stack s H ⟨us, ns.zip ws⟩ (permL (us ++ ws) kw) (permL (vs ++ zs) kw) Q hr hg I.env0 (hb _ hp s us ws I.kIn rfl hz) (permL_vals (r.append rz) kw) h) fun r s' hq => ?_)
  cases r with
  | error e => exact False.elim hq
  | ok fl =>
    cases fl with
    | ret u => exact I.after hq
    | next => exact False.elim hq
    | brk => exact False.elim hq
    | cont => exact False.elim hq
theorem pe_callD1 {e : Expr} {kw : List Nat} {ns : List Str} (F : FnG X.prog X.w X.K X.mg X.base k a fd df.ps (spD X.K df sem)) (hr : Room k X.A) (hg : X.A.guards = some []) (hgl : Gl X x) (hm : X.mg x = some (.ref a)) (hk : PySem.W.keepIn X.K (.ref a) = true)
    (hb : BindOk X.K fd df) (hns : kwNames kws = some ns) (hp : (es.length + 1, ns, kw) ∈ df.kws) (hst : ∀ y ∈ e :: es, star y = false) (ha : PA X (e :: es) t) (hkw : PK X kws tk) (hdb : (x == ("__debug__" : Str)) = false) :
    PE X (.Call (.Name x p) (e :: es) kws pos) (tCallD X.K df sem kw (es.length + 1) ns.length t tk) := by
  refine ⟨fun pins s σ H Q I h => ?_⟩
  refine wpAny_Call_Name_kw (ld_glob I hgl hm ?_ hdb)
  obtain ⟨k1, k2, k3⟩ := kw_all (env := X.env) (pos := pos) hns
  refine PySem.W.callWith_KW (h₀ := X.base) I.ok.mod.kin hk k1 (thn (ha.run pos pins s σ H _ I h) fun us s1 ⟨vs, H1, I1, r, l1, q⟩ => ?_) (by rw [star_any hst, k3]; rfl) (star_cons (hst e List.mem_cons_self))
  refine thn (hkw.run pos pins s1 σ H1 _ I1 q) fun ws s2 ⟨zs, H2, I2, rz, l2, q2⟩ => ⟨I2.kIn, ?_⟩
  rw [k2]
  have e1 : us.length = es.length + 1 := by rw [← r.length, l1]
  exact run_fnG (us := us) F hr hg hb (by rw [e1]; exact hp) (by rw [← rz.length, l2]) I2 r rz q2
theorem pe_callD0 {kw : List Nat} {ns : List Str} (F : FnG X.prog X.w X.K X.mg X.base k a fd df.ps (spD X.K df sem)) (hr : Room k X.A) (hg : X.A.guards = some []) (hgl : Gl X x) (hm : X.mg x = some (.ref a)) (hk : PySem.W.keepIn X.K (.ref a) = true)
    (hb : BindOk X.K fd df) (hns : kwNames kws = some ns) (hp : (0, ns, kw) ∈ df.kws) (hkw : PK X kws tk) (hdb : (x == ("__debug__" : Str)) = false) :
    PE X (.Call (.Name x p) [] kws pos) (tCallD X.K df sem kw 0 ns.length tNil tk) := by
  refine ⟨fun pins s σ H Q I h => ?_⟩
  refine wpAny_Call_Name_kw (ld_glob I hgl hm ?_ hdb)
  obtain ⟨k1, k2, k3⟩ := kw_all (env := X.env) (pos := pos) hns
  obtain ⟨_, q⟩ := h
  refine PySem.W.callWith_KW0 (h₀ := X.base) I.ok.mod.kin hk k1 ?_ (by rw [k3]; rfl)
  refine thn (hkw.run pos pins s σ H _ I q) fun ws s2 ⟨zs, H2, I2, rz, l2, q2⟩ => ⟨I2.kIn, ?_⟩
  rw [k2]
  exact run_fnG (us := []) (vs := []) F hr hg hb hp (by rw [← rz.length, l2]) I2 .nil rz q2
end
end Mini

set_option Elab.async false
set_option linter.all false
set_option maxHeartbeats 1000000
/-! Mini: targets, what is walked, comprehensions. -/
namespace Mini
open PySem L2 PySem.Spec PyProof.Rows

/-! ### targets -/
def lenT : Tgt → Nat
  | .cons _ ts => lenT ts + 1
  | _ => 0
def plcT : Tgt → List Nat
  | .nm i => [i]
  | .tup ts => plcT ts
  | .nil => []
  | .cons t ts => plcT t ++ plcT ts
/-- a target's reading, a chain's -/
def gTT (K : PySem.W.Frag) : Tgt → TG × TGs
  | .nm i => (gName i, fun _ _ _ _ => False)
  | .tup ts => (gTup K (lenT ts) (gTT K ts).2, fun _ _ _ _ => False)
  | .nil => (fun _ _ _ _ => False, gNil)
  | .cons t ts => (fun _ _ _ _ => False, gCons (gTT K t).1 (gTT K ts).2)

section
variable {K : PySem.W.Frag} {B Bc : Addr → Prop} {N N' : Addr → Prop} {σ σ' : L2.St} {H H' H1 H2 H3 : Hp} {ρ ρ' ρ1 ρ2 ρ3 : Rho} {O O' O1 O2 O3 Oc : Nat → List Addr} {S S' S1 S2 : Nat → Prop} {d : D} {v : V} {as bs : List Addr}
variable {G : Defs} {m a b c : ME} {Q : VK}
/-- the state behind a target's stores -/
structure GotT (K : PySem.W.Frag) (B : Addr → Prop) (ps : List Nat) (σ : L2.St) (H : Hp) (ρ : Rho) (O : Nat → List Addr) (σ' : L2.St) (ρ' : Rho) (O' : Nat → List Addr) : Prop where
  sr : SR K B σ' H ρ' O'
  ch : Chg (fun j => j ∈ ps) H ρ O H ρ' O'
  len : σ'.length = σ.length
  out : ∀ j, j ∉ ps → σ'[j]? = σ[j]?
theorem set_one {i : Nat} (r : SR K B σ H ρ O) (h : Rep K (NN O B) H d v) : ∃ O', GotT K B [i] σ H ρ O (σ.set i (some v)) (ρ.set i (some (0, d))) O' := by
  by_cases hi : i < ρ.length
  case neg =>
    rw [List.set_eq_of_length_le (by rw [r.len]; omega), List.set_eq_of_length_le (by omega)]
    exact ⟨O, r, Chg.refl, rfl, fun _ _ => rfl⟩
  refine ⟨updO O i [], ?_⟩
  have st : Stay K (NN O B) (NN (updO O i []) B) H H := stay_less (fun _ m => nomatch m)
  refine ⟨r.put st r.kd (fun _ _ _ _ _ e => e) hi (by rw [List.getElem?_set_self (by rw [r.len]; exact hi)]) (fun j hj => List.getElem?_set_ne (Ne.symm hj)) (by rw [List.length_set]) ⟨rfl, rep_stay st _ _ h⟩ List.nodup_nil (fun _ m => nomatch m) r.bt, chg_off hi (fun _ m => nomatch m), by rw [List.length_set], fun j hj => ?_⟩
  exact List.getElem?_set_ne (fun e => hj (by simp [e]))
theorem GotT.seq {p q : List Nat} {σ1 σ2 : L2.St} (g : GotT K B p σ H ρ O σ1 ρ1 O1) (g2 : GotT K B q σ1 H ρ1 O1 σ2 ρ2 O2) : GotT K B (p ++ q) σ H ρ O σ2 ρ2 O2 :=
  ⟨g2.sr, (g.ch.mono fun j h => List.mem_append_left _ h).trans (g2.ch.mono fun j h => List.mem_append_right _ h), g2.len.trans g.len, fun j hj => by
    rw [List.mem_append, not_or] at hj
    rw [g2.out j hj.2, g.out j hj.1]⟩
theorem asg_lens : ∀ (t : Tgt) {ds : List D} {ρ ρ' : Rho}, (okT t).2 = true → asgT t (.list ds) ρ = .ok ρ' → ds.length = lenT t := by
  intro t
  induction t with
  | nm i => intro ds ρ ρ' h; cases h
  | tup ts _ => intro ds ρ ρ' h; cases h
  | nil =>
    intro ds ρ ρ' _ e
    cases ds with
    | nil => rfl
    | cons d ds => cases e
  | cons t ts _ ih =>
    intro ds ρ ρ' h e
    cases ds with
    | nil => cases e
    | cons d ds =>
      have e : (asgT t d ρ >>= fun ρ1 => asgT ts (.list ds) ρ1) = .ok ρ' := e
      have h : ((okT t).1 && (okT ts).2) = true := h
      rw [Bool.and_eq_true] at h
      cases q : asgT t d ρ with
      | bad => rw [q] at e; cases e
      | ok ρ1 =>
        rw [q] at e
        show ds.length + 1 = lenT ts + 1
        rw [ih h.2 e]
theorem asg_ok : ∀ (t : Tgt), ((okT t).1 = true → ∀ {d : D} {v : V} {σ : L2.St} {H : Hp} {ρ ρ' : Rho} {O : Nat → List Addr} {Q : L2.St → Hp → Prop}, SR K B σ H ρ O → Rep K (NN O B) H d v → asgT t d ρ = .ok ρ' →
      (∀ σ' O', GotT K B (plcT t) σ H ρ O σ' ρ' O' → Q σ' H) → (gTT K t).1 v σ H Q) ∧
    ((okT t).2 = true → ∀ {ds : List D} {vs : List V} {σ : L2.St} {H : Hp} {ρ ρ' : Rho} {O : Nat → List Addr} {Q : L2.St → Hp → Prop}, SR K B σ H ρ O → All2 (Rep K (NN O B) H) ds vs → asgT t (.list ds) ρ = .ok ρ' →
      (∀ σ' O', GotT K B (plcT t) σ H ρ O σ' ρ' O' → Q σ' H) → (gTT K t).2 vs σ H Q) := by
  intro t
  induction t with
  | nm i =>
    refine ⟨fun _ => ?_, fun h => by cases h⟩
    intro d v σ H ρ ρ' O Q r h e k
    cases e
    obtain ⟨O', g⟩ := set_one r h
    exact k _ _ g
  | tup ts ih =>
    refine ⟨fun hc => ?_, fun h => by cases h⟩
    intro d v σ H ρ ρ' O Q r h e k
    cases d <;> first | cases e | skip
    rename_i l
    obtain ⟨p, xs, rfl, sx, tx⟩ := h
    rw [reps_all] at tx
    exact ⟨p, xs, rfl, sx, by rw [← tx.length]; exact asg_lens ts hc e, ih.2 hc r tx e k⟩
  | nil =>
    refine ⟨fun h => (by cases h), fun _ => ?_⟩
    intro ds vs σ H ρ ρ' O Q r h e k
    cases ds with
    | nil =>
      cases h
      cases e
      exact ⟨rfl, k _ _ ⟨r, Chg.refl, rfl, fun _ _ => rfl⟩⟩
    | cons d ds => cases e
  | cons t ts ih1 ih2 =>
    refine ⟨fun h => (by cases h), fun hc => ?_⟩
    intro ds vs σ H ρ ρ' O Q r h e k
    have hc : ((okT t).1 && (okT ts).2) = true := hc
    rw [Bool.and_eq_true] at hc
    cases ds with
    | nil => cases e
    | cons d ds =>
      obtain ⟨x, xs, rfl, rx, tx⟩ := h
      have e : (asgT t d ρ >>= fun ρ1 => asgT ts (.list ds) ρ1) = .ok ρ' := e
      cases q : asgT t d ρ with
      | bad => rw [q] at e; cases e
      | ok ρ1 =>
        rw [q] at e
        refine ⟨x, xs, rfl, ih1.1 hc.1 r rx q fun σ1 O1 g => ?_⟩
        exact ih2.2 hc.2 g.sr (tx.imp fun d x r' => rep_stay (r.stay g.ch g.sr) d x r') e fun σ2 O2 g2 => k σ2 O2 (g.seq g2)
end
end Mini

set_option Elab.async false
set_option linter.all false
set_option maxHeartbeats 1000000
/-! Mini: what is walked. -/
namespace Mini
open PySem L2 PySem.Spec PyProof.Rows

/-- a list or a tuple, walked -/
def iAny (K : PySem.W.Frag) (te : TE) : TI := fun σ H R => te σ H fun x H1 => ∃ a, x = .ref a ∧ (((∃ xs, SqL K H1 a xs) ∧ R (Itl K a) H1) ∨ ((∃ xs, SqT K H1 a xs) ∧ R (Itt K a) H1))
theorem fp_new {X : Cx} {pins : List (Addr × Obj)} {σ : L2.St} {H : Hp} {s : Shared} (I : Inv X pins σ H s) : ∀ b ∈ [s.heap.objs.size], FpOk X pins H b := fun b hb => by
  rcases List.mem_singleton.mp hb with rfl
  exact I.fpOk (Nat.le_refl _) I.fresh
theorem pi_any {X : Cx} {tg l : Expr} {tl : TE} (hl : PE X l tl) : PI X tg l (iAny X.K tl) := by
  refine ⟨fun pins s σ H R I h => thn (hl.run pins s σ H _ I h) fun w s1 ⟨x, H1, J, rx, a, ex, q⟩ => ?_⟩
  subst ex
  cases rx
  rcases q with ⟨⟨xs, hs⟩, q⟩ | ⟨⟨xs, hs⟩, q⟩
  · obtain ⟨us, _, pl, _⟩ := J.list hs
    exact wpAny_pyIter_list pl.isList ⟨_, [s1.heap.objs.size], _, _, H1, rfl, J.kept (t' := s1.toks) fun _ _ e => Heap.get?_push_of_some _ e, turn_list a _, ⟨_, Heap.get?_push_size _ rfl, rfl, rfl⟩, fp_new J, q⟩
  · obtain ⟨us, _, pt, _⟩ := J.tuple hs
    exact wpAny_pyIter_tuple (show s1.heap.IsTuple a us.toArray from pt) ⟨_, [s1.heap.objs.size], _, _, H1, rfl, J.kept (t' := s1.toks) fun _ _ e => Heap.get?_push_of_some _ e, turn_tuple a _, ⟨_, Heap.get?_push_size _ rfl, rfl, rfl⟩, fp_new J, q⟩

section
variable {K : PySem.W.Frag} {B Bc : Addr → Prop} {N N' : Addr → Prop} {σ σ' : L2.St} {H H' H1 H2 H3 : Hp} {ρ ρ' ρ1 ρ2 ρ3 : Rho} {O O' O1 O2 O3 Oc : Nat → List Addr} {S S' S1 S2 : Nat → Prop} {d : D} {v : V} {as bs : List Addr}
variable {G : Defs} {m a b c : ME} {Q : VK} {R : It → Hp → Prop} {p q : Addr} {ds : List D}
theorem wd_list : WD K (Itl K p) ds [] fun N H => Rep K N H (.list ds) (.ref p) := by
  refine ⟨fun i N H hi g => ?_, fun N H g => ?_, fun i N H x H' hi g y => ?_, fun N N' H H' s _ g => rep_stay s _ _ g⟩
  · obtain ⟨a, xs, e, q, t⟩ := g
    cases e
    rw [reps_all] at t
    exact ⟨xs, xs[i]'(by rw [← t.length]; exact hi), q.sq, List.getElem?_eq_getElem _⟩
  · obtain ⟨a, xs, e, q, t⟩ := g
    cases e
    rw [reps_all] at t
    exact ⟨xs, q.sq, by rw [t.length]; exact Nat.le_refl _⟩
  · obtain ⟨a, xs, e, q, t⟩ := g
    cases e
    rw [reps_all] at t
    obtain ⟨x', e1, r⟩ := t.get (List.getElem?_eq_getElem hi)
    have := y.2 xs q.sq
    rw [e1] at this
    cases this
    exact ⟨_, List.getElem?_eq_getElem hi, .inl ⟨y.1, r⟩⟩
theorem wd_tup : WD K (Itt K p) ds [] fun N H => Rep K N H (.tuple ds) (.ref p) := by
  refine ⟨fun i N H hi g => ?_, fun N H g => ?_, fun i N H x H' hi g y => ?_, fun N N' H H' s _ g => rep_stay s _ _ g⟩
  · obtain ⟨a, xs, e, q, t⟩ := g
    cases e
    rw [reps_all] at t
    exact ⟨xs, xs[i]'(by rw [← t.length]; exact hi), q, List.getElem?_eq_getElem _⟩
  · obtain ⟨a, xs, e, q, t⟩ := g
    cases e
    rw [reps_all] at t
    exact ⟨xs, q, by rw [t.length]; exact Nat.le_refl _⟩
  · obtain ⟨a, xs, e, q, t⟩ := g
    cases e
    rw [reps_all] at t
    obtain ⟨x', e1, r⟩ := t.get (List.getElem?_eq_getElem hi)
    have := y.2 xs q
    rw [e1] at this
    cases this
    exact ⟨_, List.getElem?_eq_getElem hi, .inl ⟨y.1, r⟩⟩
theorem wd_own : WD K (Itl K p) ds [p] fun N H => ∃ xs, H p = some (.lst xs) ∧ All2 (Rep K N H) ds xs := by
  refine ⟨fun i N H hi g => ?_, fun N H g => ?_, fun i N H x H' hi g y => ?_, fun N N' H H' s k g => ?_⟩
  · obtain ⟨xs, q, t⟩ := g
    exact ⟨xs, xs[i]'(by rw [← t.length]; exact hi), SqL.of q, List.getElem?_eq_getElem _⟩
  · obtain ⟨xs, q, t⟩ := g
    exact ⟨xs, SqL.of q, by rw [t.length]; exact Nat.le_refl _⟩
  · obtain ⟨xs, q, t⟩ := g
    obtain ⟨x', e1, r⟩ := t.get (List.getElem?_eq_getElem hi)
    have := y.2 xs (SqL.of q)
    rw [e1] at this
    cases this
    exact ⟨_, List.getElem?_eq_getElem hi, .inl ⟨y.1, r⟩⟩
  · obtain ⟨xs, q, t⟩ := g
    exact ⟨xs, k p (by simp) _ q, all2_stay s t⟩
theorem wd_range {lo : Int} {n : Nat} : WD K (Itr lo n) ((List.range n).map fun i => .int (lo + (i : Nat))) [] fun _ _ => True := by
  refine ⟨fun i N H hi g => (show i < n by simpa using hi), fun N H g => (show n ≤ _ by simp), fun i N H x H' hi g y => ?_, fun N N' H H' s _ g => trivial⟩
  obtain ⟨e, e2⟩ := y
  have hi' : i < n := by simpa using hi
  exact ⟨.int (lo + (i : Nat)), by simp [hi'], .inl ⟨e, e2⟩⟩
theorem zip_get {l m : List D} {i : Nat} : ((l.zip m).map fun p : D × D => PyData.tuple [p.1, p.2])[i]? = (match l[i]?, m[i]? with | some x, some y => some (PyData.tuple [x, y]) | _, _ => none) := by
  rw [List.getElem?_map]
  cases e : (l.zip m)[i]? with
  | some p =>
    obtain ⟨e1, e2⟩ := List.getElem?_zip_eq_some.mp e
    rw [e1, e2]
    rfl
  | none =>
    have h := List.getElem?_eq_none_iff.mp e
    rw [List.length_zip] at h
    by_cases c : l.length ≤ i
    · rw [List.getElem?_eq_none c]
      rfl
    · rw [List.getElem?_eq_none (l := m) (by omega)]
      cases l[i]? <;> rfl
theorem wd_zip {J : It} {l m : List D} {Gd : (Addr → Prop) → Hp → Prop} (hx : ∀ N H, Gd N H → ∃ xs ys, All2 (Rep K N H) l xs ∧ All2 (Rep K N H) m ys ∧
      (∀ i, i < min xs.length ys.length → J.go i H) ∧ J.stop (min xs.length ys.length) H ∧ ∀ i x H', i < min xs.length ys.length → J.yld i H x H' → YPair (fun i => xs[i]?) (fun i => ys[i]?) i H x H')
    (hs : ∀ N N' H H', Stay K N N' H H' → Gd N H → Gd N' H') : WD K J ((l.zip m).map fun p => .tuple [p.1, p.2]) [] Gd := by
  have len : ∀ {N H xs ys}, All2 (Rep K N H) l xs → All2 (Rep K N H) m ys → ((l.zip m).map fun p : D × D => PyData.tuple [p.1, p.2]).length = min xs.length ys.length := fun {N H xs ys} t u => by
    rw [List.length_map, List.length_zip, t.length, u.length]
  refine ⟨fun i N H hi g => ?_, fun N H g => ?_, fun i N H x H' hi g y => ?_, fun N N' H H' s _ g => hs _ _ _ _ s g⟩
  · obtain ⟨xs, ys, t, u, h1, h2, h3⟩ := hx N H g
    exact h1 i (by rw [← len t u]; exact hi)
  · obtain ⟨xs, ys, t, u, h1, h2, h3⟩ := hx N H g
    rw [len t u]
    exact h2
  · obtain ⟨xs, ys, t, u, h1, h2, h3⟩ := hx N H g
    rw [len t u] at hi
    obtain ⟨p, x1, y1, e1, e2, e3, e4, e5⟩ := h3 i x H' hi y
    have il : i < l.length := by have := t.length; omega
    have im : i < m.length := by have := u.length; omega
    obtain ⟨x', q1, r1⟩ := t.get (List.getElem?_eq_getElem il)
    obtain ⟨y', q2, r2⟩ := u.get (List.getElem?_eq_getElem im)
    have e4 : xs[i]? = some x1 := e4
    have e5 : ys[i]? = some y1 := e5
    rw [e4] at q1
    rw [e5] at q2
    cases q1
    cases q2
    exact ⟨.tuple [l[i], m[i]], by rw [zip_get, List.getElem?_eq_getElem il, List.getElem?_eq_getElem im], .inr ⟨p, [x1, y1], _, e1, e2, e3, rfl, x1, [y1], rfl, r1, y1, [], rfl, r2, rfl⟩⟩
theorem isL_rep {m : ME} (hb : isBk m = false) (hl : isL m = true) (nd : ∀ l, d ≠ .dict l) (k : ∀ a ∈ as, ¬ N a) (h : VR K N σ H (kd m) d v as) : Rep K N H d v := by
  unfold isL at hl
  unfold isBk at hb
  cases q : kd m with
  | e n =>
    rw [q] at h hl
    rcases n with _ | _ | n
    · exact h.2
    · exact own1_rep nd k h
    · cases hl
  | f => rw [q] at h; exact own1_rep nd k h.1
  | b n => rw [q] at hb; cases hb
  | r i => rw [q] at hl; cases hl
theorem iter_nd {ds : List D} (h : iterOf d = some ds) : (∀ l, d ≠ .dict l) ∧ (d = .list ds ∨ d = .tuple ds) := by
  cases d <;> cases h
  · exact ⟨fun l e => (by cases e), .inl rfl⟩
  · exact ⟨fun l e => (by cases e), .inr rfl⟩
theorem r_val_e (hb : isBk a = false) (hl : isL a = true) (h : tIt K G (.val a) σ H R) : iAny K (tE K G a) σ H R := by
  obtain ⟨B, ρ, O, sr, h⟩ := h
  simp only [ev] at h
  refine ⟨B, ρ, O, sr, Out.sat_mono h fun ⟨d, ρ1⟩ _ ⟨ds, e, h⟩ v H1 O1 as g => ?_⟩
  simp only at e h
  obtain ⟨nd, e2⟩ := iter_nd e
  have r := isL_rep hb hl nd (fun a m => (g.fr.2 a m).1) g.vr
  rcases e2 with rfl | rfl
  · obtain ⟨p, xs, rfl, q, t⟩ := id r
    exact ⟨p, rfl, .inl ⟨⟨xs, q.sq⟩, h _ H1 O1 [] _ g.sr g.ch (fun _ m => nomatch m) wd_list r⟩⟩
  · obtain ⟨p, xs, rfl, q, t⟩ := id r
    exact ⟨p, rfl, .inr ⟨⟨xs, q⟩, h _ H1 O1 [] _ g.sr g.ch (fun _ m => nomatch m) wd_tup r⟩⟩
theorem r_val_b {n i : Nat} (hn : n = 0 ∨ n = 1) (h : tIt K G (.val (.bor n i)) σ H R) : iAny K (tVar i) σ H R := by
  obtain ⟨B, ρ, O, sr, h⟩ := h
  simp only [ev, Out.sat_bind] at h
  obtain ⟨d, g, ds, e, h⟩ := ownD_sat h
  obtain ⟨v, hv, o⟩ := sr.sl i n d g
  refine ⟨v, hv, ?_⟩
  simp only at e h
  obtain ⟨nd, e2⟩ := iter_nd e
  have fin : Rep K (NN O B) H d v → ∃ p, v = .ref p ∧ (((∃ xs, SqL K H p xs) ∧ R (Itl K p) H) ∨ ((∃ xs, SqT K H p xs) ∧ R (Itt K p) H)) := fun r => by
    rcases e2 with rfl | rfl
    · obtain ⟨p, xs, rfl, q, t⟩ := id r
      exact ⟨p, rfl, .inl ⟨⟨xs, q.sq⟩, h _ H O [] _ sr Chg.refl (fun _ m => nomatch m) wd_list r⟩⟩
    · obtain ⟨p, xs, rfl, q, t⟩ := id r
      exact ⟨p, rfl, .inr ⟨⟨xs, q⟩, h _ H O [] _ sr Chg.refl (fun _ m => nomatch m) wd_tup r⟩⟩
  rcases hn with rfl | rfl
  · exact fin o.2
  · rcases e2 with rfl | rfl
    · obtain ⟨p, xs, bs, rfl, h1, e3, t⟩ := o
      refine ⟨p, rfl, .inl ⟨⟨xs, SqL.of h1⟩, h _ H O [p] _ sr Chg.refl (fun x m => ?_) wd_own ⟨xs, h1, reps_all.mp (all3_repN (fun d _ x cs _ o => o.2) t)⟩⟩⟩
      have : x = p := by simpa using m
      subst this
      exact ⟨i, by simp [bsl], by rw [e3]; exact List.mem_cons_self⟩
    · exact fin o.2
theorem rng_ok {a b : Int} (h : rngOk a b = true) : -(2 ^ 62) ≤ a ∧ a < 2 ^ 62 ∧ -(2 ^ 62) ≤ b ∧ b < 2 ^ 62 := by
  unfold rngOk at h
  exact of_decide_eq_true h
theorem r_rng1 (he : isE a = true) (h : tIt K G (.rng1 a) σ H R) : iRng1 (tCons (tE K G a) tNil) σ H R := by
  obtain ⟨B, ρ, O, sr, h⟩ := h
  simp only [ev, Out.sat_bind] at h
  refine ⟨B, ρ, O, sr, Out.sat_mono h fun ⟨d, ρ1⟩ _ h v H1 O1 as g => ?_⟩
  have r := isE_rep he (fun a m => (g.fr.2 a m).1) g.vr
  cases d <;> first | exact False.elim h | skip
  rename_i n _
  cases r
  by_cases k : rngOk 0 n = true
  · simp only [if_pos k] at h
    obtain ⟨ds, e, h⟩ := h
    cases e
    obtain ⟨_, _, k1, k2⟩ := rng_ok k
    refine ⟨n, rfl, k1, k2, ?_⟩
    have w : WD K (Itr 0 n.toNat) (rangeD 0 n) [] fun _ _ => True := by
      unfold rangeD
      rw [Int.sub_zero]
      exact wd_range
    exact h _ H1 O1 [] _ g.sr g.ch (fun _ m => nomatch m) w trivial
  · simp only [if_neg k] at h
    exact h.elim
theorem r_rng2 (he : isE a = true) (hb : isE b = true) (h : tIt K G (.rng2 a b) σ H R) : iRng2 (tCons (tE K G a) (tCons (tE K G b) tNil)) σ H R := by
  obtain ⟨B, ρ, O, sr, h⟩ := h
  simp only [ev, Out.sat_bind] at h
  refine ⟨B, ρ, O, sr, Out.sat_mono h fun ⟨d, ρ1⟩ _ h v H1 O1 as g => ?_⟩
  refine ⟨B, ρ1, O1, g.sr, Out.sat_mono h fun ⟨d2, ρ2⟩ _ h w H2 O2 bs g2 => ?_⟩
  have r := isE_rep he (fun a m => (g.fr.2 a m).1) g.vr
  have r2 := isE_rep hb (fun a m => (g2.fr.2 a m).1) g2.vr
  cases d <;> cases d2 <;> first | exact False.elim h | skip
  rename_i i _ _ n _
  cases r
  cases r2
  by_cases k : rngOk i n = true
  · simp only [if_pos k] at h
    obtain ⟨ds, e, h⟩ := h
    cases e
    refine ⟨i, n, rfl, rng_ok k, ?_⟩
    exact h _ H2 O2 [] _ g2.sr ((g.ch.mono ef2l).trans (g2.ch.mono ef2r)) (fun _ m => nomatch m) (wd_range (lo := i) (n := (n - i).toNat)) trivial
  · simp only [if_neg k] at h
    exact h.elim
theorem r_zip (he : isE a = true) (hb : isE b = true) (h : tIt K G (.zip a b) σ H R) : RZ.iZipA K (tCons (tE K G a) (tCons (tE K G b) tNil)) σ H R := by
  obtain ⟨B, ρ, O, sr, h⟩ := h
  simp only [ev, Out.sat_bind] at h
  refine ⟨B, ρ, O, sr, Out.sat_mono h fun ⟨d, ρ1⟩ _ h v H1 O1 as g => ?_⟩
  refine ⟨B, ρ1, O1, g.sr, Out.sat_mono h fun ⟨d2, ρ2⟩ _ h w H2 O2 bs g2 => ?_⟩
  have r := rep_stay (g.sr.stay g2.ch g2.sr) _ _ (isE_rep he (fun a m => (g.fr.2 a m).1) g.vr)
  have r2 := isE_rep hb (fun a m => (g2.fr.2 a m).1) g2.vr
  have ch := (g.ch.mono ef2l).trans (g2.ch.mono (ef2r (a := a)))
  cases d <;> cases d2 <;> first | exact False.elim h | skip
  · rename_i l _ _ m _
    obtain ⟨ds, e, h⟩ := h
    cases e
    obtain ⟨p, xs, rfl, q, t⟩ := id r
    obtain ⟨p2, ys, rfl, q2, t2⟩ := id r2
    refine ⟨p, p2, xs, ys, rfl, .inl ⟨q.sq, q2.sq, ?_⟩⟩
    refine h _ H2 O2 [] (fun N H => Rep K N H (.list l) (.ref p) ∧ Rep K N H (.list m) (.ref p2)) g2.sr ch (fun _ m => nomatch m) (wd_zip (fun N H g => ?_) fun N N' H H' s g => ⟨rep_stay s _ _ g.1, rep_stay s _ _ g.2⟩) ⟨r, r2⟩
    obtain ⟨⟨_, xs, e, q, t⟩, _, ys, e2, q2, t2⟩ := g
    cases e
    cases e2
    rw [reps_all] at t t2
    have w := walk_zip (K := K) (a := p) (b := p2) (xs := xs) (ys := ys) rfl
    exact ⟨xs, ys, t, t2, fun i hi => w.goes i H hi ⟨q.sq, q2.sq⟩, w.stops H ⟨q.sq, q2.sq⟩, fun i x H' hi y => w.yields i H x H' hi ⟨q.sq, q2.sq⟩ y⟩
  · rename_i l _ _ m _
    obtain ⟨ds, e, h⟩ := h
    cases e
    obtain ⟨p, xs, rfl, q, t⟩ := id r
    obtain ⟨p2, ys, rfl, q2, t2⟩ := id r2
    refine ⟨p, p2, xs, ys, rfl, .inr ⟨q, q2, ?_⟩⟩
    refine h _ H2 O2 [] (fun N H => Rep K N H (.tuple l) (.ref p) ∧ Rep K N H (.tuple m) (.ref p2)) g2.sr ch (fun _ m => nomatch m) (wd_zip (fun N H g => ?_) fun N N' H H' s g => ⟨rep_stay s _ _ g.1, rep_stay s _ _ g.2⟩) ⟨r, r2⟩
    obtain ⟨⟨_, xs, e, q, t⟩, _, ys, e2, q2, t2⟩ := g
    cases e
    cases e2
    rw [reps_all] at t t2
    refine ⟨xs, ys, t, t2, fun i hi => ⟨xs, ys, xs[i]'(by omega), ys[i]'(by omega), q, q2, List.getElem?_eq_getElem _, List.getElem?_eq_getElem _⟩, ⟨xs, ys, q, q2, by omega⟩, fun i x H' hi y => ?_⟩
    obtain ⟨T, x1, y1, h1, h2, h3, h4, h5⟩ := y
    exact ⟨T, x1, y1, h1, h2, h3, h4 xs q, h5 ys q2⟩
end
end Mini

set_option Elab.async false
set_option linter.all false
set_option maxHeartbeats 1000000
/-! Mini: comprehensions. -/
namespace Mini
open PySem L2 PySem.Spec PyProof.Rows

theorem wipe_get {σ : L2.St} {i : Nat} : ∀ {vs : List Nat}, (wipe σ vs)[i]? = if i ∈ vs ∧ i < σ.length then some none else σ[i]?
  | [] => by simp [wipe]
  | v :: vs => by
    unfold wipe
    by_cases h : v = i
    · subst h
      by_cases hl : v < σ.length
      · rw [List.getElem?_set_self (by rw [wipe_length]; exact hl), if_pos ⟨List.mem_cons_self, hl⟩]
      · rw [List.getElem?_eq_none (by rw [List.length_set, wipe_length]; omega), if_neg (fun q => hl q.2), List.getElem?_eq_none (by omega)]
    · rw [List.getElem?_set_ne h, wipe_get]
      by_cases q : i ∈ vs ∧ i < σ.length
      · rw [if_pos q, if_pos ⟨List.mem_cons_of_mem _ q.1, q.2⟩]
      · rw [if_neg q, if_neg (fun z => q ⟨(List.mem_cons.mp z.1).resolve_left (fun e => h e.symm), z.2⟩)]
/-- what differs at the wiped places alone is the same wiped -/
theorem wipe_eq {σ σ' : L2.St} {vs : List Nat} (hl : σ'.length = σ.length) (h : ∀ j, j ∉ vs → σ'[j]? = σ[j]?) : wipe σ' vs = wipe σ vs := by
  refine List.ext_getElem? fun i => ?_
  rw [wipe_get, wipe_get, hl]
  by_cases q : i ∈ vs
  · by_cases l : i < σ.length
    · rw [if_pos ⟨q, l⟩, if_pos ⟨q, l⟩]
    · rw [if_neg (fun z => l z.2), if_neg (fun z => l z.2), List.getElem?_eq_none (by omega), List.getElem?_eq_none (by omega)]
  · rw [if_neg (fun z => q z.1), if_neg (fun z => q z.1), h i q]
theorem wipe_wipe {σ : L2.St} {vs : List Nat} : wipe (wipe σ vs) vs = wipe σ vs := wipe_eq (wipe_length σ vs) fun j h => by rw [wipe_get, if_neg (fun z => h z.1)]

section
variable {K : PySem.W.Frag} {B B' Bc : Addr → Prop} {N N' N1 N2 : Addr → Prop} {σ σ' : L2.St} {H H' H1 H2 H3 : Hp} {ρ ρ' ρ1 ρ2 ρ3 : Rho} {O O' O1 O2 O3 Oc : Nat → List Addr} {S S' S1 S2 : Nat → Prop} {d : D} {v : V} {as bs : List Addr}
variable {G : Defs} {m a b c : ME} {Q : VK} {R : It → Hp → Prop} {p q : Addr} {ds : List D}
theorem Stay.trans (s : Stay K N N1 H H1) (t : Stay K N1 N2 H1 H2) : Stay K N N2 H H2 := by
  refine ⟨fun a o h n => t.keep a o (s.keep a o h n) fun m => s.out a (n m) (by rw [h]; simp), fun a n h => ?_⟩
  cases e : H a with
  | none => exact absurd e h
  | some o =>
    refine t.out a (s.out a n h) ?_
    rw [s.keep a o e fun _ => n]
    simp
theorem Stay.refl : Stay K N N H H := ⟨fun _ _ h _ => h, fun _ n _ => n⟩
/-- places wiped -/
theorem sr_wipe (r : SR K B σ H ρ O) (vs : List Nat) : ∃ O', SR K B (wipe σ vs) H (wipeR ρ vs) O' ∧ Chg (fun j => j ∈ vs) H ρ O H (wipeR ρ vs) O' := by
  induction vs with
  | nil => exact ⟨O, r, Chg.refl⟩
  | cons v vs ih =>
    obtain ⟨O1, r1, c1⟩ := ih
    have len : (wipeR ρ vs).length = ρ.length := c1.len
    have c1' : Chg (fun j => j ∈ v :: vs) H ρ O H (wipeR ρ vs) O1 := c1.mono fun j h => List.mem_cons_of_mem _ h
    unfold wipe wipeR
    by_cases hv : v < ρ.length
    · have r2 := r1.drop (i := v) (by rw [len]; exact hv)
      refine ⟨updO O1 v [], ⟨r2.kd, by rw [List.length_set]; exact r2.len, fun i n d e => ?_, r2.em, r2.dj, r2.nd, r2.nb, r2.bt⟩, c1'.trans ((chg_off (as := []) (by rw [len]; exact hv) (fun _ m => nomatch m)).mono fun j h => ?_)⟩
      · obtain ⟨w, h1, h2⟩ := r2.sl i n d e
        have hi : v ≠ i := fun z => by
          subst z
          rw [getS_set (by rw [len]; exact hv), if_pos rfl] at e
          cases e
        exact ⟨w, by rw [List.getElem?_set_ne hi]; exact h1, h2⟩
      · have : j = v := by simpa using h
        subst this
        exact List.mem_cons_self
    · have e1 : (wipeR ρ vs).set v none = wipeR ρ vs := List.set_eq_of_length_le (by rw [len]; omega)
      have e2 : (wipe σ vs).set v none = wipe σ vs := List.set_eq_of_length_le (by rw [r1.len, len]; omega)
      rw [e1, e2]
      exact ⟨O1, r1, c1'⟩
/-- the frame's own slots stand again -/
theorem sr_unwipe {vs : List Nat} (r : SR K B (wipe σ vs) H ρ O) : SR K B σ H ρ O :=
  ⟨r.kd, by rw [← wipe_length σ vs]; exact r.len, fun i n d e => by
    obtain ⟨v, h1, h2⟩ := r.sl i n d e
    exact ⟨v, (wipe_some h1).1, h2⟩, r.em, r.dj, r.nd, r.nb, r.bt⟩
/-- one more object stands above -/
abbrev andB (B : Addr → Prop) (D : Addr) : Addr → Prop := pl B [D]
theorem andB_self : andB B p p := .inr (by simp)
theorem stay_less_b : Stay K (NN O (andB B p)) (NN O B) H H := stay_le (nn_le pl_le)
theorem SR.less (r : SR K (andB B p) σ H ρ O) : SR K B σ H ρ O := r.le pl_le
/-- the new list is laid -/
theorem SR.newD {o : HO} (r : SR K B σ H ρ O) (hp : H p = none) : SR K (andB B p) σ (upd H p o) ρ O ∧ Stay K (NN O B) (NN O (andB B p)) H (upd H p o) := r.newP hp
/-- an object above is written -/
theorem SR.above {o u : HO} (r : SR K B σ H ρ O) (hb : B p) (hp : H p = some u) (mu : isMut u) : SR K B σ (upd H p o) ρ O ∧ Stay K (NN O B) (NN O B) H (upd H p o) := by
  have st : Stay K (NN O B) (NN O B) H (upd H p o) := ⟨fun a w h n => by
    by_cases c : a = p
    · subst c
      rw [hp] at h
      cases h
      exact absurd (.inr hb) (n mu)
    · rw [upd_ne c]; exact h, fun a n _ => n⟩
  refine ⟨⟨trivial, r.len, fun i n d e => ?_, r.em, r.dj, r.nd, r.nb, fun a b => ?_⟩, st⟩
  · obtain ⟨v, h1, h2⟩ := r.sl i n d e
    refine ⟨v, h1, own_stay st (fun a ha w h => ?_) h2⟩
    have c : a ≠ p := fun e => r.nb i a ha (by rw [e]; exact hb)
    rw [upd_ne c]; exact h
  · by_cases c : a = p
    · subst c; rw [upd_same]; simp
    · rw [upd_ne c]; exact r.bt a b
theorem Chg.above {o : HO} (c : Chg S H ρ O H1 ρ1 O1) (hp : H p = none) : Chg S H ρ O (upd H1 p o) ρ1 O1 :=
  ⟨c.same, c.fresh, fun a u h n => by rw [upd_ne (ne_of_none h hp)]; exact c.pres a u h n, c.len⟩

/-- what is kept while a comprehension goes -/
structure Cmp (K : PySem.W.Frag) (B : Addr → Prop) (p : Addr) (S : Nat → Prop) (bl : List Nat) (T : List Addr) (Gd : (Addr → Prop) → Hp → Prop) (H0 : Hp) (ρ0 : Rho) (O0 : Nat → List Addr) (pre : List D) (acc : List V) (σ : L2.St) (H : Hp) (ρ : Rho) (O : Nat → List Addr) : Prop where
  sr : SR K (andB B p) σ H ρ O
  ch : Chg S H0 ρ0 O0 H ρ O
  hp : H p = some (.lst acc)
  it : All2 (Rep K (NN O (andB B p)) H) pre acc
  gd : Gd (NN O (andB B p)) H
  to : ∀ a ∈ T, ∃ i ∈ bl, a ∈ O i
section
variable {bl : List Nat} {T : List Addr} {Gd : (Addr → Prop) → Hp → Prop} {H0 : Hp} {ρ0 : Rho} {O0 : Nat → List Addr} {pre : List D} {acc : List V}
/-- a run within -/
theorem Cmp.move (k : Cmp K B p S bl T Gd H0 ρ0 O0 pre acc σ H ρ O) (hst : ∀ N N' H H', Stay K N N' H H' → (∀ a ∈ T, ∀ o, H a = some o → H' a = some o) → Gd N H → Gd N' H') (c : Chg S' H ρ O H' ρ' O') (hs : ∀ j, S' j → S j ∧ j ∉ bl) (r : SR K (andB B p) σ' H' ρ' O') :
    Cmp K B p S bl T Gd H0 ρ0 O0 pre acc σ' H' ρ' O' := by
  have st := k.sr.stay c r
  refine ⟨r, k.ch.trans (c.mono fun j h => (hs j h).1), c.pres _ _ k.hp fun i _ h => k.sr.nb i p h andB_self, all2_stay st k.it, hst _ _ _ _ st (fun a ha o e => ?_) k.gd, fun a ha => ?_⟩
  · obtain ⟨i, hi, h⟩ := k.to a ha
    refine c.pres a o e fun j hj q => ?_
    have := k.sr.dj i j a h q
    subst this
    exact (hs i hj).2 hi
  · obtain ⟨i, hi, h⟩ := k.to a ha
    refine ⟨i, hi, ?_⟩
    rw [(c.same i fun q => (hs i q).2 hi).2]
    exact h
/-- one item more -/
theorem Cmp.put (k : Cmp K B p S bl T Gd H0 ρ0 O0 pre acc σ H ρ O) (h0 : H0 p = none) (hst : ∀ N N' H H', Stay K N N' H H' → (∀ a ∈ T, ∀ o, H a = some o → H' a = some o) → Gd N H → Gd N' H') (h : Rep K (NN O (andB B p)) H d v) :
    Cmp K B p S bl T Gd H0 ρ0 O0 (pre ++ [d]) (acc ++ [v]) σ (upd H p (.lst (acc ++ [v]))) ρ O := by
  obtain ⟨r, st⟩ := k.sr.above (o := .lst (acc ++ [v])) andB_self k.hp trivial
  refine ⟨r, k.ch.above h0, upd_same, (all2_stay st k.it).append (.one (rep_stay st _ _ h)), hst _ _ _ _ st (fun a ha o e => ?_) k.gd, k.to⟩
  obtain ⟨i, hi, q⟩ := k.to a ha
  have c : a ≠ p := fun e => k.sr.nb i a q (by rw [e]; exact andB_self)
  rw [upd_ne c]; exact e
/-- an item comes -/
theorem Cmp.yield {J : It} {i : Nat} {x : V} (k : Cmp K B p S bl T Gd H0 ρ0 O0 pre acc σ H ρ O) (w : WD K J ds T Gd) (hi : i < ds.length) (y : J.yld i H x H') : ∃ d, ds[i]? = some d ∧ Cmp K B p S bl T Gd H0 ρ0 O0 pre acc σ H' ρ O ∧ Rep K (NN O (andB B p)) H' d x := by
  obtain ⟨d, e, ⟨rfl, r⟩ | ⟨q, xs, l, rfl, hq, rfl, rfl, t⟩⟩ := w.yields i _ H x H' hi k.gd y
  · exact ⟨d, e, k, r⟩
  · refine ⟨_, e, k.move w.stay (S' := fun _ => False) (Chg.laid hq) (fun _ h => h.elim) (k.sr.laid hq trivial), q, xs, rfl, SqT.of upd_same, reps_all.mpr (all2_stay (stay_laid hq) t)⟩
end

theorem r_comp {own : List (Str × Nat)} {t : Tgt} {it c e : ME} (ht : (okT t).1 = true) (hp : ∀ i ∈ plcT t, i ∈ own.map (·.2)) (he : isE e = true) (hb : ∀ i ∈ bsl it, i ∉ eff c ++ eff e ++ own.map (·.2)) (h : tE K G (.comp own t it c e) σ H Q) :
    tLc (tIt K G it) (gTT K t).1 (tTs K G c) (tE K G e) (own.map (·.2)) σ H (Kq K Q) := by
  obtain ⟨B, ρ, O, sr, h⟩ := h
  simp only [ev, Out.sat_bind] at h
  refine ⟨B, ρ, O, sr, Out.sat_mono h fun ⟨l, ρ1⟩ _ h => ?_⟩
  obtain ⟨ds, eds, h⟩ := sat_ok h
  have eds' : iterOf l = some ds ∧ ds.length ≤ LIM := by
    simp only at eds
    split at eds
    · rename_i ds' e1
      split at eds
      · rename_i e2
        cases eds
        exact ⟨e1, e2.2⟩
      · cases eds
    · cases eds
  refine ⟨ds, eds'.1, fun J H1 O1 T Gd r1 c1 to w g1 D hD => ?_⟩
  obtain ⟨⟨xs, ρx⟩, ex, h⟩ := sat_ok h
  let vs := own.map (·.2)
  let f : PyData → Rho → Out (Option PyData × Rho) := fun d ρ => asgT t d ρ >>= fun ρa => ev G c ρa >>= fun x => truth x.1 >>= fun tt => if tt = true then ev G e x.2 >>= fun y => Out.ok (some y.1, wipeR y.2 vs) else Out.ok (none, wipeR x.2 vs)
  have ex : compL f ds (wipeR ρ1 vs) = .ok (xs, ρx) := ex
  let S : Nat → Prop := fun j => j ∈ eff c ++ eff e ++ vs
  obtain ⟨r2, st2⟩ := r1.newD (o := .lst []) hD
  obtain ⟨Ow, rw', cw⟩ := sr_wipe r2 vs
  have stw := r2.stay cw rw'
  have tk : ∀ a ∈ T, ∀ o, H1 a = some o → upd H1 D (.lst []) a = some o := fun a _ o q => by rw [upd_ne (ne_of_none q hD)]; exact q
  have hbl : ∀ j, j ∈ vs → S j ∧ j ∉ bsl it := fun j hj => ⟨List.mem_append_right _ hj, fun q => hb j q (List.mem_append_right _ hj)⟩
  have k0 : Cmp K B D S (bsl it) T Gd H1 ρ1 O1 [] [] (wipe σ vs) (upd H1 D (.lst [])) (wipeR ρ1 vs) Ow := by
    have k : Cmp K B D S (bsl it) T Gd H1 ρ1 O1 [] [] σ (upd H1 D (.lst [])) ρ1 O1 := ⟨r2, Chg.laid hD, upd_same, rfl, w.stay _ _ _ _ st2 tk g1, to⟩
    exact k.move w.stay cw hbl rw'
  let Pv : Nat → Hp → Prop := fun i H' => ∃ ρ' O' pre acc, Cmp K B D S (bsl it) T Gd H1 ρ1 O1 pre acc (wipe σ vs) H' ρ' O' ∧ acc.length ≤ i ∧ ∃ ys, compL f (ds.drop i) ρ' = .ok (ys, ρx) ∧ xs = pre ++ ys
  refine ⟨fun i n H' => n = ds.length - i ∧ i ≤ ds.length ∧ Pv i H', ⟨ds.length, by simp, Nat.zero_le _, _, _, [], [], k0, Nat.le_refl _, xs, by simpa using ex, rfl⟩, ?_⟩
  rintro i n H' ⟨rfl, hi, ρ', O', pre, acc, k, la, ys, ey, exs⟩
  by_cases hlt : i < ds.length
  · refine .inr ⟨w.goes i _ _ hlt k.gd, Pv (i + 1), fun H'' p => ⟨_, by omega, rfl, hlt, p⟩, fun x H2 y => ?_⟩
    obtain ⟨d, ed, k2, rx⟩ := k.yield w hlt y
    have edr : ds.drop i = d :: ds.drop (i + 1) := by
      rw [List.drop_eq_getElem_cons hlt]
      rw [List.getElem?_eq_getElem hlt] at ed
      cases ed
      rfl
    rw [edr] at ey
    have ey : (f d ρ' >>= fun x => compL f (ds.drop (i + 1)) x.2 >>= fun y => match x.1 with | some z => Out.ok (z :: y.1, y.2) | none => Out.ok (y.1, y.2)) = .ok (ys, ρx) := ey
    cases e1 : asgT t d ρ' with
    | bad =>
      have z : f d ρ' = .bad := by show (asgT t d ρ' >>= _) = _; rw [e1]; rfl
      rw [z] at ey
      cases ey
    | ok ρa =>
    cases e2 : ev G c ρa with
    | bad =>
      have z : f d ρ' = .bad := by show (asgT t d ρ' >>= _) = _; rw [e1, Out.ok_bind, e2]; rfl
      rw [z] at ey
      cases ey
    | ok cb =>
    obtain ⟨b, ρb⟩ := cb
    cases e3 : truth b with
    | bad =>
      have z : f d ρ' = .bad := by show (asgT t d ρ' >>= _) = _; rw [e1, Out.ok_bind, e2, Out.ok_bind, e3]; rfl
      rw [z] at ey
      cases ey
    | ok tt =>
    refine (asg_ok t).1 ht k2.sr rx e1 fun σ2 Oa ga => ?_
    · have hw : wipe σ2 vs = wipe σ vs := (wipe_eq (by rw [ga.len]) fun j hj => ga.out j fun z => hj (hp j z)).trans wipe_wipe
      have ka := k2.move w.stay ga.ch (fun j hj => hbl j (hp j hj)) ga.sr
      refine ⟨hw, _, ρa, Oa, ga.sr, ?_⟩
      rw [e2]
      show (truth b).sat _
      rw [e3]
      intro H3 Ob rb cb
      have kb := ka.move w.stay cb (fun j hj => ⟨List.mem_append_left _ (List.mem_append_left _ hj), fun q => hb j q (List.mem_append_left _ (List.mem_append_left _ hj))⟩) rb
      cases tt with
      | false =>
        have z : f d ρ' = .ok (none, wipeR ρb vs) := by show (asgT t d ρ' >>= _) = _; rw [e1, Out.ok_bind, e2, Out.ok_bind, e3]; rfl
        rw [z, Out.ok_bind] at ey
        obtain ⟨Oz, rz, cz⟩ := sr_wipe rb vs
        rw [hw] at rz
        have kz := kb.move w.stay cz hbl rz
        cases e4 : compL f (ds.drop (i + 1)) (wipeR ρb vs) with
        | bad => rw [e4] at ey; cases ey
        | ok y =>
          rw [e4] at ey
          obtain ⟨ys', ρy⟩ := y
          cases ey
          exact ⟨_, Oz, pre, acc, kz, by omega, _, e4, exs⟩
      | true =>
        rw [if_pos rfl]
        cases e5 : ev G e ρb with
        | bad =>
          have z : f d ρ' = .bad := by show (asgT t d ρ' >>= _) = _; rw [e1, Out.ok_bind, e2, Out.ok_bind, e3, Out.ok_bind, if_pos rfl, e5]; rfl
          rw [z] at ey
          cases ey
        | ok y =>
          obtain ⟨z, ρc⟩ := y
          have zf : f d ρ' = .ok (some z, wipeR ρc vs) := by show (asgT t d ρ' >>= _) = _; rw [e1, Out.ok_bind, e2, Out.ok_bind, e3, Out.ok_bind, if_pos rfl, e5]; rfl
          rw [zf, Out.ok_bind] at ey
          cases e4 : compL f (ds.drop (i + 1)) (wipeR ρc vs) with
          | bad => rw [e4] at ey; cases ey
          | ok y2 =>
            rw [e4] at ey
            obtain ⟨ys', ρy⟩ := y2
            cases ey
            refine ⟨_, ρb, Ob, rb, ?_⟩
            rw [e5]
            intro u H4 Oc cs gc
            have kc := kb.move w.stay gc.ch (fun j hj => ⟨List.mem_append_left _ (List.mem_append_right _ hj), fun q => hb j q (List.mem_append_left _ (List.mem_append_right _ hj))⟩) gc.sr
            have ru := isE_rep he (fun a m => (gc.fr.2 a m).1) gc.vr
            have kd := kc.put hD w.stay ru
            obtain ⟨Oz, rz, cz⟩ := sr_wipe kd.sr vs
            rw [hw] at rz
            have kz := kd.move w.stay cz hbl rz
            refine ⟨acc, kc.hp, lim_lt (Nat.lt_of_le_of_lt la (Nat.lt_of_lt_of_le hlt eds'.2)), ?_⟩
            exact ⟨_, Oz, pre ++ [z], acc ++ [u], kz, by rw [List.length_append]; simp; omega, ys', e4, by rw [exs]; simp⟩
  · have e : i = ds.length := by omega
    subst e
    refine .inl ⟨w.stops _ _ k.gd, fun _ => ?_⟩
    rw [List.drop_length] at ey
    cases ey
    rw [List.append_nil] at exs
    subst exs
    have c2 : Chg (Ef (.comp own t it c e)) H ρ O H' ρx O' := (c1.mono fun j s => by simp only [Ef, eff, List.mem_append]; exact .inl (.inl (.inl s))).trans (k.ch.mono fun j s => by
      simp only [Ef, eff, List.mem_append]
      rcases List.mem_append.mp s with s | s
      · rcases List.mem_append.mp s with s | s
        · exact .inl (.inr s)
        · exact .inr s
      · exact .inl (.inl (.inr s)))
    refine h _ H' O' [D] ⟨sr_unwipe k.sr.less, c2, ⟨⟨D, acc, [], rfl, k.hp, rfl, all3_own0 (all2_stay stay_less_b k.it)⟩, by simp⟩, ⟨by simp, fun a ha => ?_⟩, sr_unwipe k.sr, ⟨⟨D, acc, [], rfl, k.hp, rfl, all3_own0 k.it⟩, by simp⟩⟩
    have : a = D := by simpa using ha
    subst this
    refine ⟨?_, c1.back hD |>.imp (fun ⟨i, s, q⟩ => ⟨i, by simp only [Ef, eff, List.mem_append]; exact .inl (.inl (.inl s)), q⟩) id⟩
    rintro (⟨j, q⟩ | q)
    · exact k.sr.nb j a q andB_self
    · exact r1.bt a q hD
end
end Mini

set_option Elab.async false
set_option linter.all false
set_option maxHeartbeats 1000000
/-! Mini: what is owned is changed; dicts. -/
namespace Mini
open PySem L2 PySem.Spec PyProof.Rows

section
variable {K : PySem.W.Frag} {B B' Bc : Addr → Prop} {N N' N1 N2 : Addr → Prop} {σ σ' : L2.St} {H H' H1 H2 H3 : Hp} {ρ ρ' ρ1 ρ2 ρ3 : Rho} {O O' O1 O2 O3 Oc : Nat → List Addr} {S S' S1 S2 : Nat → Prop} {d d' : D} {v : V} {as bs : List Addr}
variable {G : Defs} {m a b c : ME} {Q : VK} {R : It → Hp → Prop} {p q : Addr} {ds : List D} {o u : HO} {k : Str}
theorem updO_self {i : Nat} : updO O i (O i) = O := by
  funext j
  unfold updO
  split
  · rename_i e; rw [e]
  · rfl
theorem stay_wr {i : Nat} (hp : p ∈ O i) (h : H p = some u) (mu : isMut u) : Stay K (NN O B) (NN O B) H (upd H p o) := ⟨fun a w h' n => by
    by_cases c : a = p
    · subst c
      rw [h] at h'
      cases h'
      exact absurd (.inl ⟨i, hp⟩) (n mu)
    · rw [upd_ne c]; exact h', fun a n _ => n⟩
/-- an object of the place i is written -/
theorem SR.wr {i n : Nat} (r : SR K B σ H ρ O) (g : getS ρ i = some (n, d)) (hp : p ∈ O i) (h : H p = some u) (mu : isMut u) (hv : σ[i]? = some (some v)) (own : Own K (NN O B) (upd H p o) n d' v (O i)) :
    SR K B σ (upd H p o) (ρ.set i (some (n, d'))) O ∧ Chg (fun j => j ∈ [i]) H ρ O (upd H p o) (ρ.set i (some (n, d'))) O := by
  have st : Stay K (NN O B) (NN (updO O i (O i)) B) H (upd H p o) := by rw [updO_self]; exact stay_wr hp h mu
  have keep : ∀ a w, a ≠ p → H a = some w → upd H p o a = some w := fun a w c e => by rw [upd_ne c]; exact e
  have hi := getS_lt g
  constructor
  · have := r.put (σ' := σ) (i := i) (as := O i) (n := n) (d := d') st trivial (fun j hj a ha w e => keep a w (fun c => hj (r.dj j i a ha (by rw [c]; exact hp))) e) hi hv (fun _ _ => rfl) rfl (by rw [updO_self]; exact own) (r.nd i) (fun a ha => ⟨r.nb i a ha, fun j hj q => hj (r.dj j i a q ha)⟩) (fun a b => by
      by_cases c : a = p
      · subst c; rw [upd_same]; simp
      · rw [upd_ne c]; exact r.bt a b)
    rw [updO_self] at this
    exact this
  · refine ⟨fun j hj => ⟨?_, rfl⟩, fun j a s h => .inl ⟨j, s, h⟩, fun a w e n => keep a w (fun c => n i (by simp) (by rw [c]; exact hp)) e, by rw [List.length_set]⟩
    rw [getS_set hi, if_neg (fun e => hj (by simp [e]))]

/-! ### dicts -/
theorem valV_at {R : D → V → Prop} : ∀ {kvs : List (D × D)} {ks : List (Key × V)}, Kv2 R kvs ks → getD k kvs = some d → ∃ x, valV ks (.inr k) = some x ∧ R d x
  | [], _, _, e => by cases e
  | kv :: r, _, ⟨y, x, xs, e1, hk, rx, t⟩, e => by
    subst e1
    unfold getD at e
    obtain ⟨kd, kx⟩ := kv
    cases kd <;> first | exact hk.elim | skip
    · have hk : y = .inl _ := hk
      rw [if_neg (by simp [isKey])] at e
      obtain ⟨x', h1, h2⟩ := valV_at t e
      exact ⟨x', by rw [valV_neg (by rw [hk]; simp)]; exact h1, h2⟩
    · rename_i s
      have hk : y = .inr s := hk
      by_cases c : s = k
      · subst c
        rw [if_pos (by simp [isKey])] at e
        cases e
        exact ⟨x, valV_pos hk, rx⟩
      · rw [if_neg (by simp [isKey, c])] at e
        obtain ⟨x', h1, h2⟩ := valV_at t e
        exact ⟨x', by rw [valV_neg (by rw [hk]; simp [c])]; exact h1, h2⟩
theorem kv3_2 {R : D → V → List Addr → Prop} {R2 : D → V → Prop} (f : ∀ d x as, R d x as → R2 d x) : ∀ {kvs : List (D × D)} {ks : List (Key × V)} {as : List Addr}, Kv3 R kvs ks as → Kv2 R2 kvs ks
  | [], _, _, h => h.1
  | _ :: _, _, _, ⟨k, x, xs, a1, a2, e, _, q, r, t⟩ => ⟨k, x, xs, e, q, f _ _ _ r, kv3_2 f t⟩
/-- the entry of a key, apart -/
theorem kv3_split {R : D → V → List Addr → Prop} : ∀ {kvs : List (D × D)} {ks : List (Key × V)} {as : List Addr}, Kv3 R kvs ks as → (ks.map Prod.fst).Nodup → getD k kvs = some d →
    ∃ x a1 a2 a3, valV ks (.inr k) = some x ∧ as = a1 ++ (a2 ++ a3) ∧ R d x a2 ∧
      (∀ (R' : D → V → List Addr → Prop), (∀ d x bs, (∀ b ∈ bs, b ∈ a1 ++ a3) → R d x bs → R' d x bs) → ∀ d' x' b, R' d' x' b → Kv3 R' (putD kvs k d') (ks.map fun kv => if kv.1 = .inr k then (kv.1, x') else kv) (a1 ++ (b ++ a3)))
  | [], _, _, _, _, e => by cases e
  | kv :: r, _, _, ⟨y, x, xs, a1, a2, e1, e2, hk, rx, t⟩, nd, e => by
    subst e1
    subst e2
    unfold getD at e
    obtain ⟨kd, kx⟩ := kv
    rw [List.map_cons, List.nodup_cons] at nd
    by_cases c : isKey k kd = true
    · rw [if_pos c] at e
      cases e
      have hy : y = .inr k := by
        cases kd <;> first | cases c | skip
        rename_i s
        have : s = k := by simpa [isKey] using c
        subst this
        exact hk
      refine ⟨x, [], a1, a2, valV_pos hy, rfl, rx, fun R' f d' x' b h => ?_⟩
      have e3 : ∀ z ∈ xs, z.1 ≠ .inr k := fun z hz e => nd.1 (show y ∈ _ by rw [hy, ← e]; exact List.mem_map_of_mem (f := Prod.fst) hz)
      have e4 : (xs.map fun kv => if kv.1 = .inr k then (kv.1, x') else kv) = xs := by
        have : xs.map (fun kv => if kv.1 = .inr k then (kv.1, x') else kv) = xs.map id := List.map_congr_left fun z hz => by rw [if_neg (e3 z hz)]; rfl
        rw [this, List.map_id]
      unfold putD
      rw [if_pos c, List.map_cons, if_pos hy, e4]
      exact ⟨y, x', xs, b, a2, rfl, rfl, hk, h, kv3_imp (fun d x bs hb => f d x bs fun b h => by rw [List.nil_append]; exact hb b h) t⟩
    · rw [if_neg c] at e
      have hy : y ≠ .inr k := fun z => by
        subst z
        cases kd <;> first | (cases hk; done) | skip
        rename_i s
        have : Sum.inr k = (Sum.inr s : Key) := hk
        cases this
        exact c (by simp [isKey])
      obtain ⟨x0, b1, b2, b3, h1, h2, h3, h4⟩ := kv3_split t nd.2 e
      subst h2
      refine ⟨x0, a1 ++ b1, b2, b3, by rw [valV_neg hy]; exact h1, by simp, h3, fun R' f d' x' b h => ?_⟩
      unfold putD
      rw [if_neg c, List.map_cons, if_neg hy]
      refine ⟨y, x, _, a1, b1 ++ (b ++ b3), rfl, by simp, hk, f _ _ _ (fun b h => by simp [h]) rx, h4 R' (fun d x bs hb => f d x bs fun b h => ?_) d' x' b h⟩
      have := hb b h
      rcases List.mem_append.mp this with q | q <;> simp [q]
theorem putK_in {ks : List (Key × V)} {x y : V} (h : valV ks (.inr k) = some x) : putK ks (.inr k) y = ks.map fun kv => if kv.1 = .inr k then (kv.1, y) else kv := by
  unfold putK
  rw [valV_any, h]
  exact if_pos rfl
theorem keys_put {ks : List (Key × V)} {y : V} : (ks.map fun kv => if kv.1 = (.inr k : Key) then (kv.1, y) else kv).map Prod.fst = ks.map Prod.fst := by
  rw [List.map_map]
  refine List.map_congr_left fun z _ => ?_
  show (if z.1 = (.inr k : Key) then (z.1, y) else z).1 = z.1
  split <;> rfl

/-! ### pop -/
theorem all3_own1 {l : List D} {xs : List V} : All3 (Own K N H 0) l xs bs → bs = [] ∧ All2 (Rep K N H) l xs := by
  induction l generalizing xs bs with
  | nil => intro h; exact ⟨h.2, h.1⟩
  | cons d l ih =>
    rintro ⟨x, ys, a1, a2, rfl, rfl, r, t⟩
    obtain ⟨h1, h2⟩ := ih t
    refine ⟨by rw [r.1, h1]; rfl, x, ys, rfl, r.2, h2⟩
theorem own1_list {l : List D} (h : Own K N H 1 (.list l) v as) : ∃ a xs, v = .ref a ∧ H a = some (.lst xs) ∧ as = [a] ∧ All2 (Rep K N H) l xs := by
  obtain ⟨a, xs, bs, e, h1, rfl, t⟩ := h
  obtain ⟨rfl, t2⟩ := all3_own1 t
  exact ⟨a, xs, e, h1, rfl, t2⟩
theorem own1_mk {l : List D} {xs : List V} (h : H p = some (.lst xs)) (t : All2 (Rep K N H) l xs) : Own K N H 1 (.list l) (.ref p) [p] := ⟨p, xs, [], rfl, h, rfl, all3_own0 t⟩
theorem last_at {l : List D} {xs : List V} {x : D} (t : All2 (Rep K N H) l xs) (h : l.getLast? = some x) : ∃ y, xs[xs.length - 1]? = some y ∧ Rep K N H x y := by
  rw [List.getLast?_eq_getElem?, t.length] at h
  exact t.get h
theorem flat_rep {N' : Addr → Prop} (f : isFlat d = true) (h : Rep K N H d v) : Rep K N' H' d v := by
  cases d <;> first | exact h | exact absurd f Bool.false_ne_true
theorem r_pop {i : Nat} (h : tE K G (.pop 1 i none) σ H Q) : tBM0 K "list" rPop (tVar i) σ H (Kq K Q) := by
  obtain ⟨B, ρ, O, sr, h⟩ := h
  simp only [ev, Out.sat_bind] at h
  obtain ⟨d, g, h⟩ := ownD_sat h
  obtain ⟨w, hw, ow⟩ := sr.sl i 1 d g
  cases d <;> first | exact False.elim h | skip
  rename_i l
  obtain ⟨a, xs, rfl, ha, ea, t⟩ := own1_list ow
  cases e : l.getLast? with
  | none => simp only [popPath, e] at h; exact h.elim
  | some x =>
    simp only [popPath, e] at h
    by_cases f : isFlat x = true
    · have h : ∀ (v : V) (H' : Hp) (O' : Nat → List Addr) (as : List Addr), Got K B σ (.pop 1 i none) H ρ O x v as H' (ρ.set i (some (1, .list l.dropLast))) O' → Q v H' := by
        change (if isFlat x = true then Out.ok x else Out.bad).sat _ at h
        rw [if_pos f] at h
        exact h
      obtain ⟨y, hy, ry⟩ := last_at t e
      refine ⟨_, hw, .inl ⟨rfl, xs, SqL.of ha⟩, a, xs, y, rfl, rfl, ha, hy, fun _ => ?_⟩
      have ma : a ∈ O i := by rw [ea]; exact List.mem_cons_self
      have st := stay_wr (B := B) (K := K) (o := .lst xs.dropLast) ma ha trivial
      obtain ⟨r2, c2⟩ := sr.wr (o := .lst xs.dropLast) g ma ha trivial hw (by rw [ea]; exact own1_mk upd_same (all2_stay st t).dropLast)
      exact h y _ O [] (.of0 r2 (c2.mono fun j s => by simpa [Ef, eff] using s) ⟨rfl, rep_stay st _ _ ry⟩)
    · change (if isFlat x = true then Out.ok x else Out.bad).sat _ at h
      rw [if_neg f] at h
      exact h.elim
/-- a dict's entry that is a list of its own -/
theorem own2_at {kvs : List (D × D)} {l : List D} (h : Own K N H 2 (.dict kvs) v as) (nd : as.Nodup) (hg : getD k kvs = some (.list l)) :
    ∃ p ks b xs, v = .ref p ∧ p ∈ as ∧ b ∈ as ∧ b ≠ p ∧ H p = some (.dK ks) ∧ valV ks (.inr k) = some (.ref b) ∧ H b = some (.lst xs) ∧ All2 (Rep K N H) l xs ∧
      ∀ xs' l', Stay K N N H (upd H b (.lst xs')) → All2 (Rep K N (upd H b (.lst xs'))) l' xs' → Own K N (upd H b (.lst xs')) 2 (.dict (putD kvs k (.list l'))) v as := by
  obtain ⟨p, ks, bs, rfl, ⟨hp, ndk⟩, rfl, t⟩ := h
  obtain ⟨x, a1, a2, a3, h1, rfl, h3, h4⟩ := kv3_split t ndk hg
  obtain ⟨b, xs, rfl, hb, rfl, t2⟩ := own1_list h3
  have mb : b ∈ a1 ++ ([b] ++ a3) := by simp
  have nbp : b ≠ p := fun e => by
    subst e
    exact (List.nodup_cons.mp nd).1 mb
  refine ⟨p, ks, b, xs, rfl, List.mem_cons_self, List.mem_cons_of_mem _ mb, nbp, hp, h1, hb, t2, fun xs' l' st t' => ?_⟩
  have nd2 := (List.nodup_cons.mp nd).2
  have e : ks = ks.map fun kv => if kv.1 = (.inr k : Key) then (kv.1, V.ref b) else kv := by
    have : ∀ ks : List (Key × V), (ks.map Prod.fst).Nodup → valV ks (.inr k) = some (.ref b) → ks = ks.map fun kv => if kv.1 = (.inr k : Key) then (kv.1, V.ref b) else kv := by
      intro ks
      induction ks with
      | nil => intro _ _; rfl
      | cons z zs ih =>
        intro nd h
        rw [List.map_cons, List.nodup_cons] at nd
        rw [List.map_cons]
        by_cases c : z.1 = .inr k
        · rw [valV_pos c] at h
          rw [if_pos c]
          have h : z.2 = .ref b := Option.some.inj h
          have e4 : (zs.map fun kv => if kv.1 = (.inr k : Key) then (kv.1, V.ref b) else kv) = zs := by
            have : zs.map (fun kv => if kv.1 = (.inr k : Key) then (kv.1, V.ref b) else kv) = zs.map id := List.map_congr_left fun z' hz => by
              rw [if_neg (fun e => nd.1 (by rw [c, ← e]; exact List.mem_map_of_mem (f := Prod.fst) hz))]; rfl
            rw [this, List.map_id]
          rw [e4, ← h]
        · rw [valV_neg c] at h
          rw [if_neg c, ← ih nd.2 h]
    exact this ks ndk h1
  have q := h4 (Own K N (upd H b (.lst xs')) 1) (fun d x cs hc ow => own_stay st (fun a ha w e => by
    have c : a ≠ b := fun e => by
      subst e
      have := hc a ha
      rw [List.nodup_append] at nd2
      rcases List.mem_append.mp this with q | q
      · exact nd2.2.2 a q a (by simp) rfl
      · exact (List.nodup_cons.mp (show (a :: a3).Nodup from nd2.2.1)).1 q
    rw [upd_ne c]; exact e) ow) (.list l') (.ref b) [b] (own1_mk upd_same t')
  rw [← e] at q
  exact ⟨p, ks, a1 ++ ([b] ++ a3), rfl, ⟨by rw [upd_ne (Ne.symm nbp)]; exact hp, ndk⟩, rfl, q⟩
theorem r_popk {i : Nat} (h : tE K G (.pop 2 i (some k)) σ H Q) : tBM0 K "list" rPop (tDGet (tVar i) (tC (.str k))) σ H (Kq K Q) := by
  obtain ⟨B, ρ, O, sr, h⟩ := h
  simp only [ev, Out.sat_bind] at h
  obtain ⟨d, g, h⟩ := ownD_sat h
  obtain ⟨w, hw, ow⟩ := sr.sl i 2 d g
  cases d <;> first | exact False.elim h | skip
  rename_i kvs
  cases eg : getD k kvs with
  | none => simp only [popPath, evKey, eg] at h; exact h.elim
  | some y0 =>
    cases y0 <;> first | (simp only [popPath, evKey, eg] at h; exact h.elim) | skip
    rename_i l
    obtain ⟨p, ks, b, xs, rfl, mp, mb, nbp, hp, hv, hb, t, mk⟩ := own2_at ow (sr.nd i) eg
    cases e : l.getLast? with
    | none => simp only [popPath, evKey, eg, e] at h; exact h.elim
    | some x =>
      simp only [popPath, evKey, eg, e] at h
      by_cases f : isFlat x = true
      · have h : ∀ (v : V) (H' : Hp) (O' : Nat → List Addr) (as : List Addr), Got K B σ (.pop 2 i (some k)) H ρ O x v as H' (ρ.set i (some (2, .dict (putD kvs k (.list l.dropLast))))) O' → Q v H' := by
          change (if isFlat x = true then Out.ok x else Out.bad).sat _ at h
          rw [if_pos f] at h
          exact h
        obtain ⟨y, hy, ry⟩ := last_at t e
        have st := stay_wr (B := B) (K := K) (o := .lst xs.dropLast) mb hb trivial
        refine ⟨_, hw, p, .ref b, rfl, hv ▸ DGet.k (k := .inr k) hp, .inl ⟨rfl, xs, SqL.of hb⟩, b, xs, y, rfl, rfl, hb, hy, fun _ => ?_⟩
        obtain ⟨r2, c2⟩ := sr.wr (o := .lst xs.dropLast) g mb hb trivial hw (mk _ _ st (all2_stay st t).dropLast)
        exact h y _ O [] (.of0 r2 (c2.mono fun j s => by simpa [Ef, eff] using s) ⟨rfl, rep_stay st _ _ ry⟩)
      · change (if isFlat x = true then Out.ok x else Out.bad).sat _ at h
        rw [if_neg f] at h
        exact h.elim

/-! ### d[k], looked at -/
theorem r_key (hb : isBk a = true) (h : tE K G (.key a k) σ H Q) : tDGet (tE K G a) (tC (.str k)) σ H (Kq K Q) := by
  obtain ⟨B, ρ, O, sr, h⟩ := h
  simp only [ev, Out.sat_bind] at h
  refine ⟨B, ρ, O, sr, Out.sat_mono h fun ⟨d, ρ1⟩ _ h v H1 O1 as g => ?_⟩
  unfold isBk at hb
  have vr := g.vr
  cases q : kd a with
  | e n => rw [q] at hb; cases hb
  | f => rw [q] at hb; cases hb
  | r i => rw [q] at hb; cases hb
  | b n =>
    rw [q] at vr
    obtain ⟨_, vr⟩ := vr
    cases d <;> first | exact False.elim h | skip
    rename_i kvs _
    simp only [evKey] at h
    cases n with
    | zero => exact False.elim vr
    | succ n =>
      obtain ⟨p, ks, rfl, hp, t⟩ := vr
      cases eg : getD k kvs with
      | none => simp only [eg] at h; exact h.elim
      | some y =>
        simp only [eg] at h
        obtain ⟨x, hx, rx⟩ := valV_at t eg
        refine ⟨p, x, rfl, hx ▸ DGet.k (k := .inr k) hp, fun _ => h x H1 O1 [] (.of0 g.sr g.ch ?_)⟩
        show VR K _ σ H1 (lessB (kd a)) y x []
        rw [q]
        cases n with
        | zero => exact ⟨rfl, rx⟩
        | succ n => exact ⟨rfl, rx⟩

/-! ### {k: v, ..} -/
theorem tE_mono {Q' : VK} (f : ∀ v H, Q v H → Q' v H) (h : tE K G m σ H Q) : tE K G m σ H Q' := by
  obtain ⟨B, ρ, O, sr, h⟩ := h
  exact ⟨B, ρ, O, sr, Out.sat_mono h fun r _ h v H' O' as g => f _ _ (h v H' O' as g)⟩
theorem tAr_mono {Q Q' : List V → Hp → Prop} (f : ∀ v H, Q v H → Q' v H) (h : tAr K G m σ H Q) : tAr K G m σ H Q' := by
  obtain ⟨B, ρ, O, sr, h⟩ := h
  exact ⟨B, ρ, O, sr, Out.sat_mono h fun r _ h ds vs H' O' as e g => f _ _ (h ds vs H' O' as e g)⟩
def trsD (K : PySem.W.Frag) (G : Defs) : List Str → ME → List (TE × TE)
  | k :: ks, .cons m es => (tC (.str k), tE K G m) :: trsD K G ks es
  | _, _ => []
theorem tPairs_mono : ∀ {es : ME} {ks : List Str} {σ : L2.St} {H : Hp} {Q Q' : List (V × V) → Hp → Prop}, (∀ ps H, Q ps H → Q' ps H) → tPairs (trsD K G ks es) σ H Q → tPairs (trsD K G ks es) σ H Q' := by
  intro es
  induction es with
  | cons m es _ ih =>
    intro ks σ H Q Q' f h
    cases ks with
    | nil => exact f _ _ h
    | cons k ks => exact tE_mono (fun v H1 q => ih (fun ps H => f _ _) q) h
  | _ =>
    intro ks σ H Q Q' f h
    cases ks <;> exact f _ _ h
theorem r_pairs : ∀ {es : ME} {ks : List Str} {σ : L2.St} {H : Hp} {Q : List V → Hp → Prop}, allD es = true → ks.length = lenM es → tAr K G es σ H Q → tPairs (trsD K G ks es) σ H fun ps H2 => ∃ vs, ps = (ks.zip vs).map (fun kv => (kV (.inr kv.1), kv.2)) ∧ Q vs H2 := by
  intro es
  induction es with
  | nil =>
    intro ks σ H Q _ e h
    cases ks with
    | nil => exact ⟨[], rfl, r_nil h⟩
    | cons k ks => cases e
  | cons m es _ ih =>
    intro ks σ H Q ha e h
    cases ks with
    | nil => cases e
    | cons k ks =>
      have ha : (_ && allD es) = true := ha
      rw [Bool.and_eq_true] at ha
      have nb : notB m es = true := by
        unfold notB
        have q := ha.1
        split
        · rename_i n e
          rw [e, Bool.or_false] at q
          cases m <;> first | (cases q; done) | (cases e; done)
        · rfl
      refine tE_mono (fun v H1 q => ?_) (r_cons nb h)
      have q2 := ih (ks := ks) ha.2 (by simpa [lenM] using e) q
      exact tPairs_mono (fun ps H2 ⟨vs, e, q⟩ => ⟨v :: vs, by rw [e]; rfl, q⟩) q2
  | _ => intro _ _ _ _ h; cases h
theorem ar_kv : ∀ {es : ME} {ks : List Str} {ds : List D} {vs : List V} {as : List Addr}, allD es = true → ks.length = lenM es → dspOk es ds = true → AR K N σ H (listM es) ds vs as →
    Kv3 (Own K N H 1) ((ks.map PyData.str).zip ds) ((ks.zip vs).map fun kv => ((.inr kv.1 : Key), kv.2)) as := by
  intro es
  induction es with
  | nil =>
    intro ks ds vs as _ e _ h
    have : ks = [] := by cases ks with | nil => rfl | cons k ks => cases e
    subst this
    cases ds <;> cases vs <;> first | exact h.elim | exact ⟨rfl, h⟩
  | cons m es _ ih =>
    intro ks ds vs as ha e ho h
    cases ks with
    | nil => cases e
    | cons k ks =>
      cases ds <;> cases vs <;> first | exact h.elim | skip
      rename_i d ds v vs
      obtain ⟨a1, a2, rfl, h1, h2⟩ := h
      have ha : ((isFlatM m || (match kd m with | .f => true | _ => false)) && allD es) = true := ha
      have ho : ((!isFlatM m || isFlat d) && dspOk es ds) = true := ho
      rw [Bool.and_eq_true] at ha ho
      refine ⟨.inr k, v, _, a1, a2, rfl, rfl, rfl, ?_, ih ha.2 (by simpa [lenM] using e) ho.2 h2⟩
      by_cases c : isFlatM m = true
      · have f : isFlat d = true := by simpa [c] using ho.1
        have kd0 : kd m = .e 0 := by cases m <;> first | (cases c; done) | rfl
        rw [kd0] at h1
        exact (own_flat f).mpr h1
      · have q := ha.1
        have c : isFlatM m = false := by simpa using c
        rw [c, Bool.false_or] at q
        split at q
        · rename_i e
          rw [e] at h1
          exact h1.1
        · cases q
  | _ => intro _ _ _ _ h; cases h
theorem merge_new : ∀ (kvs acc : List (Key × V)), (kvs.map Prod.fst).Nodup → (∀ x ∈ kvs, ∀ y ∈ acc, x.1 ≠ y.1) → mergeK acc kvs = acc ++ kvs
  | [], acc, _, _ => by simp [mergeK]
  | kv :: r, acc, nd, dj => by
    rw [List.map_cons, List.nodup_cons] at nd
    have hn : valV acc kv.1 = none := by
      have : (valV acc kv.1).isSome = false := by
        rw [← valV_any, List.any_eq_false]
        intro x hx q
        exact dj kv List.mem_cons_self x hx (of_decide_eq_true q).symm
      cases e : valV acc kv.1 with
      | none => rfl
      | some x => rw [e] at this; cases this
    show mergeK (putK acc kv.1 kv.2) r = _
    rw [putK_new _ hn, merge_new r _ nd.2 (fun x hx y hy => ?_), List.append_assoc]
    · rfl
    · rcases List.mem_append.mp hy with hy | hy
      · exact dj x (List.mem_cons_of_mem _ hx) y hy
      · have : y = (kv.1, kv.2) := by simpa using hy
        subst this
        exact fun e => nd.1 (by rw [← e]; exact List.mem_map_of_mem (f := Prod.fst) hx)
theorem nodupS_ok : ∀ {ks : List Str}, nodupS ks = true → ks.Nodup
  | [], _ => List.nodup_nil
  | k :: ks, h => by
    have h : ((!(ks.any fun y => decide (y = k))) && nodupS ks) = true := h
    rw [Bool.and_eq_true] at h
    refine List.nodup_cons.mpr ⟨fun q => ?_, nodupS_ok h.2⟩
    have h1 := h.1
    rw [Bool.not_eq_true', List.any_eq_false] at h1
    exact h1 k q (by simp)
theorem lenM_list : ∀ {es : ME}, allD es = true → (listM es).length = lenM es := by
  intro es
  induction es with
  | cons m es _ ih =>
    intro h
    have h : (_ && allD es) = true := h
    rw [Bool.and_eq_true] at h
    simp [listM, lenM, ih h.2]
  | nil => intro _; rfl
  | _ => intro h; cases h
theorem r_dsp {ks : List Str} {es : ME} (ha : allD es = true) (hl : ks.length = lenM es) (nd : nodupS ks = true) (hz : ks.length ≤ 15) (h : tE K G (.dsp ks es) σ H Q) : tDisp (trsD K G ks es) σ H (Kq K Q) := by
  obtain ⟨B, ρ, O, sr, h⟩ := h
  simp only [ev, Out.sat_bind] at h
  intro p hp
  obtain ⟨sr', st'⟩ := sr.newD (o := .dK []) hp
  have hA : tAr K G es σ (upd H p (.dK [])) fun vs H2 => H2 p = some (.dK []) ∧ vs.length = ks.length ∧ (Kq K Q) (.ref p) (upd H2 p (.dK ((ks.zip vs).map fun kv => ((.inr kv.1 : Key), kv.2)))) := by
    refine ⟨andB B p, ρ, O, sr', Out.sat_mono h fun ⟨l, ρ1⟩ _ h ds vs H2 O2 as e g => ?_⟩
    simp only at e
    subst e
    by_cases ok : dspOk es ds = true
    · simp only [if_pos ok] at h
      have h : ∀ (v : V) (H' : Hp) (O' : Nat → List Addr) (as : List Addr), Got K B σ (.dsp ks es) H ρ O (.dict ((ks.map PyData.str).zip ds)) v as H' ρ1 O' → Q v H' := h
      have hp2 : H2 p = some (.dK []) := g.ch.pres p _ upd_same fun i _ hi => sr'.nb i p hi andB_self
      have lv := (ar_len g.ar).2
      refine ⟨hp2, by rw [← lv, lenM_list ha, hl], fun _ => ?_⟩
      have ps : pl (andB B p) as = pl B (p :: as) := pl_app
      have rS := g.srs
      have aS := g.ars
      rw [ps] at rS aS
      obtain ⟨sr3, st3⟩ := rS.above (o := .dK ((ks.zip vs).map fun kv => ((.inr kv.1 : Key), kv.2))) (.inr List.mem_cons_self) hp2 trivial
      have np : ∀ a ∈ as, a ≠ p := fun a ha e => (g.fr.2 a ha).1 (.inr (.inr (by simp [e])))
      have kv := ar_kv ha hl ok aS
      have kv2 : Kv3 (Own K (NN O2 (pl B (p :: as))) (upd H2 p (.dK ((ks.zip vs).map fun kv => ((.inr kv.1 : Key), kv.2)))) 1) ((ks.map PyData.str).zip ds) ((ks.zip vs).map fun kv => ((.inr kv.1 : Key), kv.2)) as :=
        kv3_imp (fun d x bs hb o => own_stay st3 (fun a m w e => by rw [upd_ne (np a (hb a m))]; exact e) o) kv
      have keys : (((ks.zip vs).map fun kv => ((.inr kv.1 : Key), kv.2)).map Prod.fst) = ks.map .inr := by
        rw [List.map_map]
        have : (ks.zip vs).map Prod.fst = ks := List.map_fst_zip (by rw [← lv, lenM_list ha, hl]; exact Nat.le_refl _)
        calc (ks.zip vs).map _ = ((ks.zip vs).map Prod.fst).map .inr := by rw [List.map_map]; rfl
          _ = _ := by rw [this]
      have ndk : (ks.map (Sum.inr : Str → Key)).Nodup := List.Pairwise.map _ (fun a b h e => h (Sum.inr.inj e)) (nodupS_ok nd)
      have ownS : Own K (NN O2 (pl B (p :: as))) (upd H2 p (.dK ((ks.zip vs).map fun kv => ((.inr kv.1 : Key), kv.2)))) 2 (.dict ((ks.map PyData.str).zip ds)) (.ref p) (p :: as) := ⟨p, _, as, rfl, ⟨upd_same, by rw [keys]; exact ndk⟩, rfl, kv2⟩
      refine h (.ref p) _ O2 (p :: as) ⟨sr3.le pl_le, ?_, own_stay (stay_le (nn_le pl_le)) (fun _ _ _ e => e) ownS, ⟨List.nodup_cons.mpr ⟨fun m => np p m rfl, g.fr.1⟩, fun a m => ?_⟩, sr3, ownS⟩
      · have c : Chg (Ef es) H ρ O H2 ρ1 O2 := (Chg.laid hp).trans g.ch
        exact c.above hp
      · rcases List.mem_cons.mp m with rfl | m
        · refine ⟨?_, .inr hp⟩
          rintro (⟨j, q⟩ | q)
          · exact g.sr.nb j a q andB_self
          · exact sr.bt a q hp
        · obtain ⟨f1, f2⟩ := g.fr.2 a m
          refine ⟨fun n => f1 (nn_le pl_le a n), f2.imp id fun z => ?_⟩
          rw [upd_ne (np a m)] at z
          exact z
    · simp only [if_neg ok] at h
      exact h.elim
  refine tPairs_mono (fun ps H2 ⟨vs, e, h1, h2, h3⟩ => ?_) (r_pairs ha hl hA)
  have keys : (((ks.zip vs).map fun kv => ((.inr kv.1 : Key), kv.2)).map Prod.fst) = ks.map .inr := by
    rw [List.map_map]
    have : (ks.zip vs).map Prod.fst = ks := List.map_fst_zip (by omega)
    calc (ks.zip vs).map _ = ((ks.zip vs).map Prod.fst).map .inr := by rw [List.map_map]; rfl
      _ = _ := by rw [this]
  have ndk : (ks.map (Sum.inr : Str → Key)).Nodup := List.Pairwise.map _ (fun a b h e => h (Sum.inr.inj e)) (nodupS_ok nd)
  refine ⟨h1, (ks.zip vs).map fun kv => ((.inr kv.1 : Key), kv.2), by rw [e, List.map_map]; rfl, by rw [List.length_map, List.length_zip]; omega, ?_⟩
  rw [merge_new _ [] (by rw [keys]; exact ndk) (fun _ _ _ h => nomatch h)]
  exact h3
end
end Mini

set_option Elab.async false
set_option linter.all false
set_option maxHeartbeats 2000000
/-! Mini: a checked expression does what its Mini expression evaluates to. -/
namespace Mini
open PySem L2 PySem.Spec PyProof.Rows

/-! ### names -/
theorem nmB_ok {N : List Str} {sc : Scope} {i : Nat} {x : Str} (h : nmB N sc i x = true) : N[i]? = some x ∧ Vis sc x ∧ (x == ("__debug__" : Str)) = false ∧ (x == ("__classdict__" : Str)) = false := by
  unfold nmB at h
  simp only [Bool.and_eq_true, Bool.not_eq_true', decide_eq_true_eq] at h
  obtain ⟨⟨⟨h1, h2⟩, h3⟩, h4⟩ := h
  refine ⟨h1, ?_, h3, h4⟩
  unfold visB at h2
  split at h2 <;> first | exact .inl (by assumption) | exact .inr (.inl (by assumption)) | exact .inr (.inr (by assumption)) | cases h2
theorem glB_ok {X : Cx} {x : Str} (h : glB X.env.scope x = true) : Gl X x ∧ (x == ("__debug__" : Str)) = false ∧ x ≠ "__name__" := by
  unfold glB at h
  simp only [Bool.and_eq_true, Bool.not_eq_true', decide_eq_true_eq] at h
  obtain ⟨⟨h1, h2⟩, h3⟩ := h
  refine ⟨?_, h2, h3⟩
  split at h1
  · assumption
  · cases h1
theorem stB_ok {X : Cx} {blk : Bool} {x : Str} (hf : blk = false → ∀ x, X.fn x = true) (h : stB blk X.env.scope x = true) : Loc X.env.scope x ∧ (X.fn x = true ∨ X.env.scope.names.lookup x = some .local) := by
  unfold stB at h
  split at h
  · rename_i e
    exact ⟨.inl e, .inr e⟩
  · rename_i e
    cases blk with
    | true => cases h
    | false => exact ⟨.inr e, .inl (hf rfl x)⟩
  · cases h

/-! ### targets -/
theorem each_len {env : Env} : ∀ {es : List Expr}, (assignEach es env).length = es.length
  | [] => rfl
  | e :: es => by
    have ih := each_len (env := env) (es := es)
    cases e <;> (show _ + 1 = _ + 1; rw [ih])
theorem each_cons {env : Env} {e : Expr} {es : List Expr} (h : star e = false) : assignEach (e :: es) env = (false, assign e env) :: assignEach es env := by
  cases e <;> first | (cases h; done) | rfl
theorem each_plain {env : Env} : ∀ {es : List Expr}, (∀ e ∈ es, star e = false) → (assignEach es env).findIdx? (·.1) = none
  | [], _ => rfl
  | e :: es, h => by
    rw [each_cons (h e List.mem_cons_self), List.findIdx?_cons]
    rw [each_plain fun y hy => h y (List.mem_cons_of_mem _ hy)]
    rfl
theorem ckT_len {blk : Bool} {N : List Str} {sc : Scope} : ∀ {t : Tgt} {xs : List Expr}, (okT t).2 = true → ckT blk N sc t xs = true → xs.length = lenT t ∧ ∀ e ∈ xs, star e = false := by
  intro t
  induction t with
  | nm i => intro xs h; cases h
  | tup ts _ => intro xs h; cases h
  | nil =>
    intro xs _ h
    cases xs with
    | nil => exact ⟨rfl, fun _ h => nomatch h⟩
    | cons x xs => cases h
  | cons t ts _ ih =>
    intro xs h1 h2
    cases xs with
    | nil => cases h2
    | cons x xs =>
      have h1 : ((okT t).1 && (okT ts).2) = true := h1
      have h2 : (!star x && (ckT blk N sc t [x] && ckT blk N sc ts xs)) = true := h2
      simp only [Bool.and_eq_true, Bool.not_eq_true'] at h1 h2
      obtain ⟨l, st⟩ := ih h1.2 h2.2.2
      refine ⟨by simp [l, lenT], fun e he => ?_⟩
      rcases List.mem_cons.mp he with rfl | he
      · exact h2.1
      · exact st e he
theorem pg_tgt {X : Cx} {blk : Bool} (hN : X.N.Nodup) (hc : X.calm = true) (hf : blk = false → ∀ x, X.fn x = true) : ∀ t : Tgt, ((okT t).1 = true → ∀ tg, ckT blk X.N X.env.scope t [tg] = true → PG X tg (gTT X.K t).1) ∧
    ((okT t).2 = true → ∀ xs, ckT blk X.N X.env.scope t xs = true → PGs X xs (gTT X.K t).2) := by
  intro t
  induction t with
  | nm i =>
    refine ⟨fun _ tg h => ?_, fun h => by cases h⟩
    cases tg <;> first | (cases h; done) | skip
    rename_i x pos
    have h : (decide (X.N[i]? = some x) && stB blk X.env.scope x) = true := h
    rw [Bool.and_eq_true, decide_eq_true_eq] at h
    obtain ⟨h1, h2⟩ := stB_ok hf h.2
    exact pg_name hN h.1 h1 h2
  | tup ts ih =>
    refine ⟨fun ho tg h => ?_, fun h => by cases h⟩
    cases tg <;> first | (cases h; done) | skip
    rename_i xs k pos
    have h : ckT blk X.N X.env.scope ts xs = true := h
    obtain ⟨l, st⟩ := ckT_len ho h
    exact pg_tup hc (ih.2 ho xs h) (by rw [each_len, l]) (each_plain st)
  | nil =>
    refine ⟨fun h => (by cases h), fun _ xs h => ?_⟩
    cases xs with
    | nil => exact pgs_nil
    | cons x xs => cases h
  | cons t ts ih1 ih2 =>
    refine ⟨fun h => (by cases h), fun ho xs h => ?_⟩
    have ho : ((okT t).1 && (okT ts).2) = true := ho
    rw [Bool.and_eq_true] at ho
    cases xs with
    | nil => cases h
    | cons x xs =>
      have h : (!star x && (ckT blk X.N X.env.scope t [x] && ckT blk X.N X.env.scope ts xs)) = true := h
      simp only [Bool.and_eq_true, Bool.not_eq_true'] at h
      exact pgs_cons (ih1.1 ho.1 x h.2.1) (ih2.2 ho.2 xs h.2.2) (by rw [each_cons h.1]; rfl)

/-! ### the statement -/
structure Sound (C : CkP) (G : Defs) (m : ME) : Prop where
  e : ∀ X, XOk C G X → ∀ x, ck C X.N m X.env.scope (.e x) = true → PE X x (tE X.K G m)
  t : ∀ X, XOk C G X → ∀ x, ck C X.N m X.env.scope (.e x) = true → isL m = true → PT X x (tTs X.K G m)
  a : ∀ X, XOk C G X → ∀ xs, ck C X.N m X.env.scope (.a xs) = true → PA X xs (tAr X.K G m)
  i : ∀ X, XOk C G X → ∀ tg x, ck C X.N m X.env.scope (.it tg x) = true → PI X tg x (tIt X.K G m) ∧ isSet x = false
  p : ∀ X, XOk C G X → ∀ ks keys vs pos, ks.length = lenM m → strKeys ks keys = true → ck C X.N m X.env.scope (.a vs) = true → PPs X pos keys vs (trsD X.K G ks m)
  k : ∀ X, XOk C G X → ∀ kws, plainKw kws = true → ck C X.N m X.env.scope (.a (kwVals kws)) = true → PK X kws (tAr X.K G m)

section
variable {C : CkP} {G : Defs} {X : Cx} {m a b c : ME} {x : Expr}
theorem kq {K : PySem.W.Frag} {σ : L2.St} {H : Hp} {Q : VK} (h : tE K G m σ H Q) : tE K G m σ H fun v H' => KD K H' → Q v H' := tE_mono (fun _ _ q _ => q) h
theorem pt_plain (hl : isL m = true) (hp : PE X x (tE X.K G m)) (he : ∀ whole, isTrue x X.env whole = (do let v ← whole; standAt x.pos; holding [v] (truthy v))) : PT X x (tTs X.K G m) :=
  pt_pv (pv_plain hp he) hl fun _ _ _ h => kq h
/-- an expression that no list and no iterator stands for -/
theorem Sound.of (e : ∀ X, XOk C G X → ∀ x, ck C X.N m X.env.scope (.e x) = true → PE X x (tE X.K G m))
    (t : ∀ X, XOk C G X → ∀ x, ck C X.N m X.env.scope (.e x) = true → isL m = true → PE X x (tE X.K G m) → PT X x (tTs X.K G m))
    (na : ∀ N sc xs, ck C N m sc (.a xs) = false) (ni : ∀ N sc tg x, ck C N m sc (.it tg x) = false) : Sound C G m :=
  ⟨e, fun X ok x h hl => t X ok x h hl (e X ok x h), fun X ok xs h => (by rw [na] at h; cases h), fun X ok tg x h => (by rw [ni] at h; cases h), fun X ok ks keys vs pos _ _ h => (by rw [na] at h; cases h), fun X ok kws _ h => (by rw [na] at h; cases h)⟩

/-! ### names, constants -/
theorem s_name {i : Nat} (hm : ∀ N, ck C N m = ckNm N i) (r : ∀ K σ H Q, tE K G m σ H Q → tVar i σ H (Kq K Q)) : Sound C G m := by
  refine .of (fun X ok x h => ?_) (fun X ok x h hl pe => ?_) (fun N sc xs => by rw [hm]; rfl) (fun N sc tg x => by rw [hm]; rfl)
  · rw [hm] at h
    cases x <;> first | (cases h; done) | skip
    obtain ⟨h1, h2, h3, h4⟩ := nmB_ok h
    exact PE.by (pe_var h1 h2 h3 h4) fun σ H Q => r X.K σ H Q
  · rw [hm] at h
    cases x <;> first | (cases h; done) | skip
    exact pt_plain hl pe fun _ => rfl
theorem s_cst {d : D} : Sound C G (.cst d) := by
  refine .of (fun X ok x h => ?_) (fun X ok x h hl pe => ?_) (fun N sc xs => rfl) (fun N sc tg x => rfl)
  · cases x <;> first | (cases h; done) | skip
    rename_i cc k pos
    have h : cstB d cc = true := h
    cases d <;> cases cc <;> first | (cases h; done) | skip
    · exact PE.by pe_non fun σ H Q => r_const rfl rfl (fun _ _ => rfl)
    · rename_i u v _
      have : u = v := by simpa [cstB] using h
      subst this
      exact PE.by pe_bl fun σ H Q => r_const rfl rfl (fun _ _ => rfl)
    · rename_i u v _
      have : u = v := by simpa [cstB] using h
      subst this
      exact PE.by pe_int fun σ H Q => r_const rfl rfl (fun _ _ => rfl)
    · rename_i u v _
      have : u = v := by simpa [cstB] using h
      subst this
      exact PE.by pe_str fun σ H Q => r_const rfl rfl (fun _ _ => rfl)
  · cases x <;> first | (cases h; done) | skip
    exact pt_plain hl pe fun _ => rfl
theorem s_glb {y : Str} {n : Int} : Sound C G (.glb y n) := by
  refine .of (fun X ok x h => ?_) (fun X ok x h hl pe => ?_) (fun N sc xs => rfl) (fun N sc tg x => rfl)
  · cases x <;> first | (cases h; done) | skip
    rename_i z pos
    have h : (decide (y = z) && (glB X.env.scope z && C.GC.contains (y, n))) = true := h
    simp only [Bool.and_eq_true, decide_eq_true_eq] at h
    obtain ⟨rfl, h2, h3⟩ := h
    obtain ⟨g1, g2, g3⟩ := glB_ok h2
    obtain ⟨t, e⟩ := ok.gc _ (List.contains_iff_mem.mp h3)
    exact PE.by (pe_glob (v := .int n) g1 e ⟨t, rfl⟩ g2) fun σ H Q => r_const rfl rfl (fun _ _ => rfl)
  · cases x <;> first | (cases h; done) | skip
    exact pt_plain hl pe fun _ => rfl
theorem s_flat (ih : Sound C G a) : Sound C G (.flat a) := by
  refine .of (fun X ok x h => ?_) (fun X ok x h hl pe => ?_) (fun N sc xs => rfl) (fun N sc tg x => rfl)
  · have h : (ck C X.N a X.env.scope (.e x) && isL a) = true := h
    rw [Bool.and_eq_true] at h
    exact PE.by (ih.e X ok x h.1) fun σ H Q => r_flat h.2
  · have h : (ck C X.N a X.env.scope (.e x) && isL a) = true := h
    rw [Bool.and_eq_true] at h
    exact PT.by (ih.t X ok x h.1 h.2) fun σ H Q q => by
      obtain ⟨B, ρ, O, sr, h⟩ := rt_flat q
      exact ⟨B, ρ, O, sr, Out.sat_mono h fun r _ h => Out.sat_mono h fun b _ h H' O' r c _ => h H' O' r c⟩
theorem s_op1 {o : Op1} (ih : Sound C G a) : Sound C G (.op1 o a) := by
  refine .of (fun X ok x h => ?_) (fun X ok x h hl pe => ?_) (fun N sc xs => rfl) (fun N sc tg x => rfl)
  · cases x <;> first | (cases h; done) | skip
    rename_i op y pos
    cases op <;> first | (cases h; done) | skip
    · have h : (decide (o = .not) && (ck C X.N a X.env.scope (.e y) && isL a)) = true := h
      simp only [Bool.and_eq_true, decide_eq_true_eq] at h
      obtain ⟨rfl, h1, h2⟩ := h
      exact PE.by (pe_notT (ih.e X ok y h1)) fun σ H Q => r_not h2
    · have h : (decide (o = .neg) && (ck C X.N a X.env.scope (.e y) && isE a)) = true := h
      simp only [Bool.and_eq_true, decide_eq_true_eq] at h
      obtain ⟨rfl, h1, h2⟩ := h
      exact PE.by (pe_un un_neg (ih.e X ok y h1)) fun σ H Q => r_neg h2
  · cases x <;> first | (cases h; done) | skip
    rename_i op y pos
    cases op <;> first | (cases h; done) | skip
    · have h : (decide (o = .not) && (ck C X.N a X.env.scope (.e y) && isL a)) = true := h
      simp only [Bool.and_eq_true, decide_eq_true_eq] at h
      obtain ⟨rfl, h1, h2⟩ := h
      exact PT.by (pt_not (ih.t X ok y h1 h2)) fun σ H Q q => by
        obtain ⟨B, ρ, O, sr, h⟩ := rt_not q
        exact ⟨B, ρ, O, sr, Out.sat_mono h fun r _ h => Out.sat_mono h fun b _ h H' O' r c _ => h H' O' r c⟩
    · exact pt_plain hl pe fun _ => rfl
end
end Mini

set_option Elab.async false
set_option linter.all false
set_option maxHeartbeats 2000000
/-! Mini: a checked expression, further. -/
namespace Mini
open PySem L2 PySem.Spec PyProof.Rows

section
variable {C : CkP} {G : Defs} {X : Cx} {m a b c : ME} {x : Expr}
/-! ### operators -/
theorem opD_bin {o : Op2} {op : Operator} (h : binB o op = true) : OpR X (binaryOp op) (rD X.K o) := by
  cases o <;> cases op <;> first | (cases h; done) | skip
  · exact opD_add
  · exact opD_sub
  · exact opD_mul
  · exact opD_fdv
  · exact opD_mod
  · exact opD_pow
theorem opD_cmp {o : Op2} {op : CmpOp} (hu : X.A.units + 64 < cLine) (h : cmpB o op = true) : OpR X (compareOp op) (rD X.K o) := by
  cases o <;> cases op <;> first | (cases h; done) | skip
  · exact opD_eq hu
  · exact opD_ne hu
  · exact opD_lt
  · exact opD_le
  · exact opD_gt
  · exact opD_ge
  · exact opD_isn
  · exact opD_isnn
  · exact opD_inn
  · exact opD_nin
theorem s_op2 {o : Op2} (iha : Sound C G a) (ihb : Sound C G b) : Sound C G (.op2 o a b) := by
  refine .of (fun X ok x h => ?_) (fun X ok x h hl pe => ?_) (fun N sc xs => rfl) (fun N sc tg x => rfl)
  · cases x <;> first | (cases h; done) | skip
    · rename_i y op z pos
      have h : (binB o op && (ck C X.N a X.env.scope (.e y) && (ck C X.N b X.env.scope (.e z) && (sideB a b && isL b)))) = true := h
      simp only [Bool.and_eq_true] at h
      obtain ⟨h1, h2, h3, h4, h5⟩ := h
      exact PE.by (pe_op (opD_bin h1) (iha.e X ok y h2) (ihb.e X ok z h3)) fun σ H Q => r_op2 h4 h5
    · rename_i y ops zs pos
      cases ops with
      | nil => cases h
      | cons op r =>
        cases r <;> cases zs <;> first | (cases h; done) | skip
        rename_i z zs
        cases zs <;> first | (cases h; done) | skip
        have h : (cmpB o op && (!behindInMarks op z && (ck C X.N a X.env.scope (.e y) && (ck C X.N b X.env.scope (.e z) && (sideB a b && isL b))))) = true := h
        simp only [Bool.and_eq_true, Bool.not_eq_true'] at h
        obtain ⟨h1, h0, h2, h3, h4, h5⟩ := h
        exact PE.by (pe_cmpR (opD_cmp ok.hu h1) (iha.e X ok y h2) (ihb.e X ok z h3) h0) fun σ H Q => r_op2 h4 h5
  · cases x <;> first | (cases h; done) | skip
    · exact pt_plain hl pe fun _ => rfl
    · rename_i y ops zs pos
      cases ops with
      | nil => cases h
      | cons op r =>
        cases r <;> cases zs <;> first | (cases h; done) | skip
        rename_i z zs
        cases zs <;> first | (cases h; done) | skip
        have h : (cmpB o op && (!behindInMarks op z && (ck C X.N a X.env.scope (.e y) && (ck C X.N b X.env.scope (.e z) && (sideB a b && isL b))))) = true := h
        simp only [Bool.and_eq_true, Bool.not_eq_true'] at h
        obtain ⟨h1, h0, h2, h3, h4, h5⟩ := h
        exact pt_pv (pv_cmp (opD_cmp ok.hu h1) (iha.e X ok y h2) (ihb.e X ok z h3) h0) hl fun σ H Q => r_op2 h4 h5
theorem s_chn {o o' : Op2} (iha : Sound C G a) (ihb : Sound C G b) (ihc : Sound C G c) : Sound C G (.chn o o' a b c) := by
  refine .of (fun X ok x h => ?_) (fun X ok x h hl pe => ?_) (fun N sc xs => rfl) (fun N sc tg x => rfl)
  · cases x <;> first | (cases h; done) | skip
    rename_i y ops zs pos
    rcases ops with _ | ⟨op, _ | ⟨op', _ | ⟨op2, r⟩⟩⟩ <;> rcases zs with _ | ⟨z, _ | ⟨w, _ | ⟨z2, zs⟩⟩⟩ <;> first | (cases h; done) | skip
    have h : (cmpB o op && (cmpB o' op' && ((plainC o && plainC o') && (!lastMarks [op, op'] [z, w] && (ck C X.N a X.env.scope (.e y) && (ck C X.N b X.env.scope (.e z) && (ck C X.N c X.env.scope (.e w) && (isE a && (isE b && isE c))))))))) = true := h
    simp only [Bool.and_eq_true, Bool.not_eq_true'] at h
    obtain ⟨h1, h2, ⟨p1, p2⟩, h0, h3, h4, h5, e1, e2, e3⟩ := h
    exact PE.by (pe_chain (opD_cmp ok.hu h1) (opD_cmp ok.hu h2) (iha.e X ok y h3) (ihb.e X ok z h4) (ihc.e X ok w h5) h0) fun σ H Q => r_chn p1 p2 e1 e2 e3
  · cases x <;> first | (cases h; done) | skip
    rename_i y ops zs pos
    rcases ops with _ | ⟨op, _ | ⟨op', _ | ⟨op2, r⟩⟩⟩ <;> rcases zs with _ | ⟨z, _ | ⟨w, _ | ⟨z2, zs⟩⟩⟩ <;> first | (cases h; done) | skip
    have h : (cmpB o op && (cmpB o' op' && ((plainC o && plainC o') && (!lastMarks [op, op'] [z, w] && (ck C X.N a X.env.scope (.e y) && (ck C X.N b X.env.scope (.e z) && (ck C X.N c X.env.scope (.e w) && (isE a && (isE b && isE c))))))))) = true := h
    simp only [Bool.and_eq_true, Bool.not_eq_true'] at h
    obtain ⟨h1, h2, ⟨p1, p2⟩, h0, h3, h4, h5, e1, e2, e3⟩ := h
    exact pt_pv (pv_chain (opD_cmp ok.hu h1) (opD_cmp ok.hu h2) (iha.e X ok y h3) (ihb.e X ok z h4) (ihc.e X ok w h5) h0) hl fun σ H Q => r_chn p1 p2 e1 e2 e3

/-! ### and, or -/
theorem pw_bool {op : BoolOp} {xs : List Expr} {pos : Pos} {t : TT} (h : PT X (.BoolOp op xs pos) t) : PW X (.BoolOp op xs pos) t := ⟨fun _ => h.run⟩
theorem isB {k op : BoolOp} {y z : Expr} {r : List Expr} {p : Pos} {ca cb : CkF} {sc : Scope} (h : ckBool k a b ca cb sc (.e (.BoolOp op (y :: z :: r) p)) = true) :
    op = k ∧ isE a = true ∧ isE b = true ∧ ca sc (.e y) = true ∧ ((r = [] ∧ cb sc (.e z) = true) ∨ (∃ w r', r = w :: r' ∧ cb sc (.e (.BoolOp k (z :: r) p)) = true)) := by
  have h : (decide (op = k) && (isE a && (isE b && (ca sc (.e y) && ckRest k cb sc z p r)))) = true := h
  simp only [Bool.and_eq_true, decide_eq_true_eq] at h
  obtain ⟨h1, h2, h3, h4, h5⟩ := h
  refine ⟨h1, h2, h3, h4, ?_⟩
  cases r with
  | nil => exact .inl ⟨rfl, h5⟩
  | cons w r' => exact .inr ⟨w, r', rfl, h5⟩
theorem two_ops {k : BoolOp} {ca cb : CkF} {sc : Scope} (h : ckBool k a b ca cb sc (.e x) = true) : ∃ op y z r p, x = .BoolOp op (y :: z :: r) p := by
  cases x <;> first | (cases h; done) | skip
  rename_i op xs p
  rcases xs with _ | ⟨y, _ | ⟨z, r⟩⟩ <;> first | (cases h; done) | exact ⟨_, _, _, _, _, rfl⟩
theorem tTs_kd {K : PySem.W.Frag} {σ : L2.St} {H : Hp} {Q : Bool → Hp → Prop} (h : tTs K G m σ H Q) : tTs K G m σ H fun b H' => KD K H' → Q b H' := by
  obtain ⟨B, ρ, O, sr, h⟩ := h
  exact ⟨B, ρ, O, sr, Out.sat_mono h fun r _ h => Out.sat_mono h fun b _ h H' O' r c _ => h H' O' r c⟩
theorem tTs_mono {K : PySem.W.Frag} {σ : L2.St} {H : Hp} {Q Q' : Bool → Hp → Prop} (f : ∀ b H, Q b H → Q' b H) (h : tTs K G m σ H Q) : tTs K G m σ H Q' := by
  obtain ⟨B, ρ, O, sr, h⟩ := h
  exact ⟨B, ρ, O, sr, Out.sat_mono h fun r _ h => Out.sat_mono h fun b _ h H' O' r c => f _ _ (h H' O' r c)⟩
theorem tTs_mono_and {K : PySem.W.Frag} {σ : L2.St} {H : Hp} {Q : Bool → Hp → Prop} (h : tAnd (tTs K G a) (tTs K G b) σ H Q) : tAnd (tTs K G a) (tTs K G b) σ H fun k H' => KD K H' → Q k H' := by
  refine tTs_mono (fun k H1 q => ?_) h
  cases k with
  | true => exact tTs_kd q
  | false => exact fun _ => q
theorem tTs_mono_or {K : PySem.W.Frag} {σ : L2.St} {H : Hp} {Q : Bool → Hp → Prop} (h : tOr (tTs K G a) (tTs K G b) σ H Q) : tOr (tTs K G a) (tTs K G b) σ H fun k H' => KD K H' → Q k H' := by
  refine tTs_mono (fun k H1 q => ?_) h
  cases k with
  | false => exact tTs_kd q
  | true => exact fun _ => q
theorem s_and (iha : Sound C G a) (ihb : Sound C G b) : Sound C G (.and a b) := by
  refine .of (fun X ok x h => ?_) (fun X ok x h hl pe => ?_) (fun N sc xs => rfl) (fun N sc tg x => rfl)
  · obtain ⟨op, y, z, r, p, rfl⟩ := two_ops (show ckBool .And a b (ck C X.N a) (ck C X.N b) X.env.scope (.e x) = true from h)
    obtain ⟨rfl, ea, eb, h1, h2⟩ := isB (show ckBool .And a b (ck C X.N a) (ck C X.N b) X.env.scope _ = true from h)
    rcases h2 with ⟨rfl, h2⟩ | ⟨w, r', rfl, h2⟩
    · exact PE.by (pe_andT (iha.e X ok y h1) (pe_one (ihb.e X ok z h2))) fun σ H Q => r_and ea eb
    · exact PE.by (pe_andT (iha.e X ok y h1) (ihb.e X ok _ h2)) fun σ H Q => r_and ea eb
  · obtain ⟨op, y, z, r, p, rfl⟩ := two_ops (show ckBool .And a b (ck C X.N a) (ck C X.N b) X.env.scope (.e x) = true from h)
    obtain ⟨rfl, ea, eb, h1, h2⟩ := isB (show ckBool .And a b (ck C X.N a) (ck C X.N b) X.env.scope _ = true from h)
    have la := isE_isL ea
    have lb := isE_isL eb
    rcases h2 with ⟨rfl, h2⟩ | ⟨w, r', rfl, h2⟩
    · exact PT.by (PW.pt (pw_and (iha.t X ok y h1 la) (pw_and1 (ihb.t X ok z h2 lb)))) fun σ H Q q => tTs_mono_and (rt_and q)
    · exact PT.by (PW.pt (pw_and (iha.t X ok y h1 la) (pw_bool (ihb.t X ok _ h2 lb)))) fun σ H Q q => tTs_mono_and (rt_and q)
theorem s_or (iha : Sound C G a) (ihb : Sound C G b) : Sound C G (.or a b) := by
  refine .of (fun X ok x h => ?_) (fun X ok x h hl pe => ?_) (fun N sc xs => rfl) (fun N sc tg x => rfl)
  · obtain ⟨op, y, z, r, p, rfl⟩ := two_ops (show ckBool .Or a b (ck C X.N a) (ck C X.N b) X.env.scope (.e x) = true from h)
    obtain ⟨rfl, ea, eb, h1, h2⟩ := isB (show ckBool .Or a b (ck C X.N a) (ck C X.N b) X.env.scope _ = true from h)
    rcases h2 with ⟨rfl, h2⟩ | ⟨w, r', rfl, h2⟩
    · exact PE.by (pe_orT (iha.e X ok y h1) (pe_one (ihb.e X ok z h2))) fun σ H Q => r_or ea eb
    · exact PE.by (pe_orT (iha.e X ok y h1) (ihb.e X ok _ h2)) fun σ H Q => r_or ea eb
  · obtain ⟨op, y, z, r, p, rfl⟩ := two_ops (show ckBool .Or a b (ck C X.N a) (ck C X.N b) X.env.scope (.e x) = true from h)
    obtain ⟨rfl, ea, eb, h1, h2⟩ := isB (show ckBool .Or a b (ck C X.N a) (ck C X.N b) X.env.scope _ = true from h)
    have la := isE_isL ea
    have lb := isE_isL eb
    rcases h2 with ⟨rfl, h2⟩ | ⟨w, r', rfl, h2⟩
    · exact PT.by (PW.pt (pw_or (iha.t X ok y h1 la) (pw_or1 (ihb.t X ok z h2 lb)))) fun σ H Q q => tTs_mono_or (rt_or q)
    · exact PT.by (PW.pt (pw_or (iha.t X ok y h1 la) (pw_bool (ihb.t X ok _ h2 lb)))) fun σ H Q q => tTs_mono_or (rt_or q)
theorem pt_ifExp {c a b : Expr} {pos : Pos} {tc ta tb : TT} (hc : PT X c tc) (ha : PT X a ta) (hb : PT X b tb) : PT X (.IfExp c a b pos) fun σ H Q => tc σ H fun k H1 => if k = true then ta σ H1 Q else tb σ H1 Q := by
  refine ⟨fun pins s σ H Q I h => ?_⟩
  show wpAny _ _ (do if ← isTrue c X.env (eval c X.env) then isTrue a X.env (eval a X.env) else isTrue b X.env (eval b X.env)) _ _ s
  refine wpAny_bind (thn (hc.run pins s σ H _ I h) fun d s1 ⟨H1, I1, q1⟩ => ?_)
  cases d with
  | true => exact ha.run pins s1 σ H1 Q I1 q1
  | false => exact hb.run pins s1 σ H1 Q I1 q1
theorem s_ife (iha : Sound C G a) (ihb : Sound C G b) (ihc : Sound C G c) : Sound C G (.ife c a b) := by
  refine .of (fun X ok x h => ?_) (fun X ok x h hl pe => ?_) (fun N sc xs => rfl) (fun N sc tg x => rfl)
  · cases x <;> first | (cases h; done) | skip
    rename_i z x y pos
    have h : (isE a && (isE b && (isL c && (ck C X.N c X.env.scope (.e z) && (ck C X.N a X.env.scope (.e x) && ck C X.N b X.env.scope (.e y)))))) = true := h
    simp only [Bool.and_eq_true] at h
    obtain ⟨h1, h2, h3, h4, h5, h6⟩ := h
    exact PE.by (pe_ifExp (ihc.t X ok z h4 h3) (iha.e X ok x h5) (ihb.e X ok y h6)) fun σ H Q => r_ife h1 h2
  · cases x <;> first | (cases h; done) | skip
    rename_i z x y pos
    have h : (isE a && (isE b && (isL c && (ck C X.N c X.env.scope (.e z) && (ck C X.N a X.env.scope (.e x) && ck C X.N b X.env.scope (.e y)))))) = true := h
    simp only [Bool.and_eq_true] at h
    obtain ⟨h1, h2, h3, h4, h5, h6⟩ := h
    exact PT.by (pt_ifExp (ihc.t X ok z h4 h3) (iha.t X ok x h5 (isE_isL h1)) (ihb.t X ok y h6 (isE_isL h2))) fun σ H Q q => tTs_mono (fun k H1 q => by
      cases k with
      | true => exact tTs_kd q
      | false => exact tTs_kd q) (rt_ife q)

/-! ### displays, lists of expressions -/
theorem kqa {K : PySem.W.Frag} {σ : L2.St} {H : Hp} {Q : List V → Hp → Prop} (h : tAr K G m σ H Q) : tAr K G m σ H fun v H' => KD K H' → Q v H' := tAr_mono (fun _ _ q _ => q) h
theorem s_tup (ih : Sound C G a) : Sound C G (.tup a) := by
  refine .of (fun X ok x h => ?_) (fun X ok x h hl pe => ?_) (fun N sc xs => rfl) (fun N sc tg x => rfl)
  · cases x <;> first | (cases h; done) | skip
    rename_i xs k pos
    have h : (ck C X.N a X.env.scope (.a xs) && (allE a && decide (lenM a ≤ LIM))) = true := h
    simp only [Bool.and_eq_true, decide_eq_true_eq] at h
    exact PE.by (pe_tup (ih.a X ok xs h.1)) fun σ H Q => r_tup h.2.1 h.2.2
  · cases x <;> first | (cases h; done) | skip
    exact pt_plain hl pe fun _ => rfl
theorem s_lst (ih : Sound C G a) : Sound C G (.lst a) := by
  refine .of (fun X ok x h => ?_) (fun X ok x h hl pe => ?_) (fun N sc xs => rfl) (fun N sc tg x => rfl)
  · cases x <;> first | (cases h; done) | skip
    rename_i xs pos
    have h : (ck C X.N a X.env.scope (.a xs) && (allE a && decide (lenM a ≤ LIM))) = true := h
    simp only [Bool.and_eq_true, decide_eq_true_eq] at h
    exact PE.by (pe_lst (ih.a X ok xs h.1)) fun σ H Q => r_lst h.2.1 h.2.2
  · cases x <;> first | (cases h; done) | skip
    exact pt_plain hl pe fun _ => rfl
/-- a list of expressions alone -/
theorem Sound.ofA (a : ∀ X, XOk C G X → ∀ xs, ck C X.N m X.env.scope (.a xs) = true → PA X xs (tAr X.K G m))
    (p : ∀ X, XOk C G X → ∀ ks keys vs pos, ks.length = lenM m → strKeys ks keys = true → ck C X.N m X.env.scope (.a vs) = true → PPs X pos keys vs (trsD X.K G ks m)) (k : ∀ X, XOk C G X → ∀ kws, plainKw kws = true → ck C X.N m X.env.scope (.a (kwVals kws)) = true → PK X kws (tAr X.K G m))
    (ne : ∀ N sc x, ck C N m sc (.e x) = false) (ni : ∀ N sc tg x, ck C N m sc (.it tg x) = false) : Sound C G m :=
  ⟨fun X ok x h => (by rw [ne] at h; cases h), fun X ok x h => (by rw [ne] at h; cases h), a, fun X ok tg x h => (by rw [ni] at h; cases h), p, k⟩
theorem PK.by {kws : List Keyword} {t t' : TA} (h : PK X kws t) (k : ∀ σ H Q, t' σ H Q → t σ H fun v H' => KD X.K H' → Q v H') : PK X kws t' :=
  ⟨fun pos pins s σ H Q I q => thn (h.run pos pins s σ H _ I (k σ H Q q)) fun u s' ⟨v, H', I', r, q'⟩ => ⟨v, H', I', r, q' (kd_inv I')⟩⟩
theorem s_nil : Sound C G .nil := by
  refine .ofA (fun X ok xs h => ?_) (fun X ok ks keys vs pos hl hk h => ?_) (fun X ok kws hk h => ?_) (fun N sc x => rfl) (fun N sc tg x => rfl)
  · cases xs with
    | nil => exact PA.by pa_nil fun σ H Q h => r_nil (kqa h)
    | cons x xs => cases h
  · cases vs with
    | cons x xs => cases h
    | nil =>
      cases ks with
      | cons k ks => cases hl
      | nil =>
        cases keys with
        | nil => exact pps_nil
        | cons k keys => cases hk
  · cases kws with
    | nil => exact PK.by pk_nil fun σ H Q h => r_nil (kqa h)
    | cons x xs =>
      obtain ⟨nm, x, kp⟩ := x
      cases h
theorem s_cons {es : ME} (ihm : Sound C G m) (ihs : Sound C G es) : Sound C G (.cons m es) := by
  refine .ofA (fun X ok xs h => ?_) (fun X ok ks keys vs pos hl hk h => ?_) (fun X ok kws hk h => ?_) (fun N sc x => rfl) (fun N sc tg x => rfl)
  · cases xs with
    | nil => cases h
    | cons x xs =>
      have h : (!star x && (ck C X.N m X.env.scope (.e x) && (ck C X.N es X.env.scope (.a xs) && notB m es))) = true := h
      simp only [Bool.and_eq_true, Bool.not_eq_true'] at h
      obtain ⟨h0, h1, h2, h3⟩ := h
      exact PA.by (pa_cons (ihm.e X ok x h1) (ihs.a X ok xs h2) (star_cons h0)) fun σ H Q h => r_cons h3 (kqa h)
  · cases vs with
    | nil => cases h
    | cons x xs =>
      have h : (!star x && (ck C X.N m X.env.scope (.e x) && (ck C X.N es X.env.scope (.a xs) && notB m es))) = true := h
      simp only [Bool.and_eq_true, Bool.not_eq_true'] at h
      obtain ⟨h0, h1, h2, h3⟩ := h
      cases ks with
      | nil => cases hl
      | cons k ks =>
        cases keys with
        | nil => cases hk
        | cons ke keys =>
          cases ke with
          | none => cases hk
          | some ke =>
            cases ke <;> first | (cases hk; done) | skip
            rename_i cc j p1
            cases cc <;> first | (cases hk; done) | skip
            rename_i z
            have hk : (decide (k = z) && strKeys ks keys) = true := hk
            simp only [Bool.and_eq_true, decide_eq_true_eq] at hk
            obtain ⟨rfl, hk2⟩ := hk
            exact pps_cons pe_str (ihm.e X ok x h1) (ihs.p X ok ks keys xs pos (by simpa [lenM] using hl) hk2 h2)
  · cases kws with
    | nil => cases h
    | cons kw kws =>
      obtain ⟨nm, x, kp⟩ := kw
      have h : (!star x && (ck C X.N m X.env.scope (.e x) && (ck C X.N es X.env.scope (.a (kwVals kws)) && notB m es))) = true := h
      simp only [Bool.and_eq_true, Bool.not_eq_true'] at h
      obtain ⟨h0, h1, h2, h3⟩ := h
      cases nm with
      | none => cases hk
      | some y =>
        have hk : (!star x && plainKw kws) = true := hk
        rw [Bool.and_eq_true] at hk
        exact PK.by (pk_cons (ihm.e X ok x h1) (ihs.k X ok kws hk.2 h2)) fun σ H Q h => r_cons h3 (kqa h)

/-! ### subscripts -/
theorem plainIx_of {y : Expr} (h : isSlice y = false) : PlainIx y := by
  intro o i
  cases y <;> first | (cases h; done) | rfl
theorem s_sub (iha : Sound C G a) (ihb : Sound C G b) : Sound C G (.sub a b) := by
  refine .of (fun X ok x h => ?_) (fun X ok x h hl pe => ?_) (fun N sc xs => rfl) (fun N sc tg x => rfl)
  · cases x <;> first | (cases h; done) | skip
    rename_i x y pos
    have h : (ck C X.N a X.env.scope (.e x) && (ck C X.N b X.env.scope (.e y) && (sideB a b && (isE b && !isSlice y)))) = true := h
    simp only [Bool.and_eq_true, Bool.not_eq_true'] at h
    obtain ⟨h1, h2, h3, h4, h5⟩ := h
    exact PE.by (pe_ix ixD (iha.e X ok x h1) (ihb.e X ok y h2) (plainIx_of h5)) fun σ H Q => r_sub h3 h4
  · cases x <;> first | (cases h; done) | skip
    exact pt_plain hl pe fun _ => rfl
theorem s_key {k : Str} (iha : Sound C G a) : Sound C G (.key a k) := by
  have inv : ∀ {X : Cx} {x : Expr}, ck C X.N (.key a k) X.env.scope (.e x) = true → ∃ y s j p1 p2, x = .Subscript y (.Constant (.str s) j p1) p2 ∧ ck C X.N a X.env.scope (.e y) = true ∧ k = s ∧ isBk a = true := by
    intro X x h
    cases x <;> first | (cases h; done) | skip
    rename_i y z pos
    cases z <;> first | (cases h; done) | skip
    rename_i cc j p1
    cases cc <;> first | (cases h; done) | skip
    rename_i s
    have h : (ck C X.N a X.env.scope (.e y) && (decide (k = s) && isBk a)) = true := h
    simp only [Bool.and_eq_true, decide_eq_true_eq] at h
    exact ⟨y, s, j, p1, pos, rfl, h.1, h.2.1, h.2.2⟩
  refine .of (fun X ok x h => ?_) (fun X ok x h hl pe => ?_) (fun N sc xs => rfl) (fun N sc tg x => rfl)
  · obtain ⟨y, s, j, p1, p2, rfl, h1, rfl, h3⟩ := inv h
    exact PE.by (pe_dget (by have := ok.hu; omega) (iha.e X ok y h1) pe_str (fun _ _ => rfl)) fun σ H Q => r_key h3
  · obtain ⟨y, s, j, p1, p2, rfl, h1, rfl, h3⟩ := inv h
    exact pt_plain hl pe fun _ => rfl
/-- a part of a slice, as a value -/
theorem po_val {e : Expr} {te : TE} (h : PE X e te) : PO X (some e) fun σ H Q => te σ H fun x H1 => ∃ o, (match o with | none => x = .non | some i => x = .int i) ∧ Q o H1 := by
  refine ⟨fun pins s σ H Q I hw => ?_⟩
  rw [evalPart_some]
  refine thn (h.run pins s σ H _ I hw) fun u s1 ⟨x, H1, I1, r1, o, e, q⟩ => ?_
  cases o with
  | none =>
    have e : x = .non := e
    subst e
    cases r1
    exact ⟨none, H1, I1, .none, q⟩
  | some i =>
    have e : x = .int i := e
    subst e
    obtain ⟨t, rfl⟩ := r1
    exact ⟨some i, H1, I1, .int i t, q⟩
theorem po_part {ox : Option Expr} (ok : XOk C G X) (ih : Sound C G m) (h : ckPart m (ck C X.N m) X.env.scope ox = true) : PO X ox (tP X.K G m) := by
  cases ox with
  | none =>
    cases m <;> first | (cases h; done) | skip
    refine ⟨fun pins s σ H Q I hw => po_none.run pins s σ H Q I ?_⟩
    obtain ⟨B, ρ, O, sr, i, e, q⟩ := hw
    cases e
    exact q H O sr Chg.refl
  | some y =>
    have h : (ck C X.N m X.env.scope (.e y) && isE m) = true := h
    rw [Bool.and_eq_true] at h
    exact ⟨fun pins s σ H Q I hw => (po_val (ih.e X ok y h.1)).run pins s σ H Q I (tP_part h.2 (fun _ _ _ => trivial) hw)⟩
theorem s_slc (iha : Sound C G a) (ihb : Sound C G b) (ihc : Sound C G c) : Sound C G (.slc a b c) := by
  have inv : ∀ {X : Cx} {x : Expr}, ck C X.N (.slc a b c) X.env.scope (.e x) = true → ∃ y l h p1 p2, x = .Subscript y (.Slice l h none p1) p2 ∧ ck C X.N a X.env.scope (.e y) = true ∧ sideB a b = true ∧ sideB a c = true ∧ ckPart b (ck C X.N b) X.env.scope l = true ∧ ckPart c (ck C X.N c) X.env.scope h = true := by
    intro X x h
    cases x <;> first | (cases h; done) | skip
    rename_i y z pos
    cases z <;> first | (cases h; done) | skip
    rename_i l u st p1
    cases st <;> first | (cases h; done) | skip
    have h : (ck C X.N a X.env.scope (.e y) && (sideB a b && (sideB a c && (ckPart b (ck C X.N b) X.env.scope l && ckPart c (ck C X.N c) X.env.scope u)))) = true := h
    simp only [Bool.and_eq_true] at h
    exact ⟨y, l, u, p1, pos, rfl, h.1, h.2.1, h.2.2.1, h.2.2.2.1, h.2.2.2.2⟩
  refine .of (fun X ok x h => ?_) (fun X ok x h hl pe => ?_) (fun N sc xs => rfl) (fun N sc tg x => rfl)
  · obtain ⟨y, l, u, p1, p2, rfl, h1, h2, h3, h4, h5⟩ := inv h
    exact PE.by (pe_slice slD (iha.e X ok y h1) (po_part ok ihb h4) (po_part ok ihc h5)) fun σ H Q => r_slc h2 h3
  · obtain ⟨y, l, u, p1, p2, rfl, h1, h2, h3, h4, h5⟩ := inv h
    exact pt_plain hl pe fun _ => rfl
theorem s_nop : Sound C G .nop := ⟨fun X ok x h => (by cases h), fun X ok x h => (by cases h), fun X ok x h => (by cases h), fun X ok tg x h => (by cases h), fun X ok ks keys vs pos _ _ h => (by cases h), fun X ok kws _ h => (by cases h)⟩
theorem s_rev (iha : Sound C G a) : Sound C G (.rev a) := by
  have inv : ∀ {X : Cx} {x : Expr}, ck C X.N (.rev a) X.env.scope (.e x) = true → ∃ y k p1 p2 p3 p4, x = .Subscript y (.Slice none none (some (.UnaryOp .USub (.Constant (.int 1) k p1) p2)) p3) p4 ∧ ck C X.N a X.env.scope (.e y) = true ∧ isL a = true := by
    intro X x h
    replace h : ckRev a (ck C X.N a) X.env.scope (.e x) = true := h
    unfold ckRev at h
    split at h
    · rename_i e
      cases e
      rw [Bool.and_eq_true] at h
      exact ⟨_, _, _, _, _, _, rfl, h.1, h.2⟩
    · cases h
  refine .of (fun X ok x h => ?_) (fun X ok x h hl pe => ?_) (fun N sc xs => rfl) (fun N sc tg x => rfl)
  · obtain ⟨y, k, p1, p2, p3, p4, rfl, h1, h2⟩ := inv h
    exact PE.by (pe_revL (iha.e X ok y h1)) fun σ H Q => r_rev h2
  · obtain ⟨y, k, p1, p2, p3, p4, rfl, h1, h2⟩ := inv h
    exact pt_plain hl pe fun _ => rfl
end
end Mini

set_option Elab.async false
set_option linter.all false
set_option maxHeartbeats 2000000
/-! Mini: a checked expression, the rest. -/
namespace Mini
open PySem L2 PySem.Spec PyProof.Rows

section
variable {C : CkP} {G : Defs} {X : Cx} {m a b c : ME} {x : Expr}
/-! ### built-ins -/
theorem ck_blt_na {b : Blt} {es : ME} {N : List Str} {sc : Scope} : (∀ xs, ck C N (.blt b es) sc (.a xs) = false) ∧ ∀ tg x, ck C N (.blt b es) sc (.it tg x) = false := by
  cases b <;> first | exact ⟨fun _ => rfl, fun _ _ => rfl⟩ | skip
  cases es <;> first | exact ⟨fun _ => rfl, fun _ _ => rfl⟩ | skip
  rename_i m es
  cases es <;> exact ⟨fun _ => rfl, fun _ _ => rfl⟩
theorem pe_blt {bb : Blt} {f : Str} {es : ME} {xs : List Expr} {p pos : Pos} (ok : XOk C G X) (hv : (∃ id, bootBuiltins f = some (.builtin id) ∧ CallR X (.builtin id) (rB X.K bb)) ∨ ∃ T, bootBuiltins f = some (.type T) ∧ CallR X (.type T) (rB X.K bb)) (hb : f ∈ bltNames) (hg : glB X.env.scope f = true)
    (hst : ∀ y ∈ x :: xs, star y = false) (ha : PA X (x :: xs) (tAr X.K G es)) (hl : allL es = true) : PE X (.Call (.Name f p) (x :: xs) [] pos) (tE X.K G (.blt bb es)) := by
  obtain ⟨g1, g2, g3⟩ := glB_ok hg
  have e1 : starEach (x :: xs) X.env = (false, eval x X.env) :: starEach xs X.env := star_cons (hst x List.mem_cons_self)
  have e2 : (backTo pos (starEach xs X.env)).any (·.1) = false := star_any fun y hy => hst y (List.mem_cons_of_mem _ hy)
  rcases hv with ⟨id, h1, h2⟩ | ⟨T, h1, h2⟩
  · exact PE.by (pe_callB h2 g1 (ok.blt f hb) h1 ha g3 g2 e1 e2) fun σ H Q => r_blt hl
  · exact PE.by (pe_callTy h2 g1 (ok.blt f hb) h1 ha g3 g2 e1 e2) fun σ H Q => r_blt hl
theorem blt_row (ok : XOk C G X) {bb : Blt} {f : Str} {v : Value} (h : bltV bb = some (f, v)) : f ∈ bltNames ∧ ((∃ id, bootBuiltins f = some (.builtin id) ∧ CallR X (.builtin id) (rB X.K bb)) ∨ ∃ T, bootBuiltins f = some (.type T) ∧ CallR X (.type T) (rB X.K bb)) := by
  cases bb <;> first | (cases h; done) | (cases h; refine ⟨by decide +kernel, ?_⟩)
  · exact .inl ⟨_, boot_len, crD_len⟩
  · exact .inr ⟨_, PyProof.Rows.boot_tuple, crD_tupl⟩
  · exact .inr ⟨_, PyProof.Rows.boot_list, crD_list⟩
  · exact .inl ⟨_, PyProof.Rows.boot_all, crD_all ok.calm⟩
  · exact .inl ⟨_, PyProof.Rows.boot_any, crD_any ok.calm⟩
  · exact .inr ⟨_, PyProof.Rows.boot_int, crD_int⟩
  · exact .inl ⟨_, PyProof.Rows.boot_sum, crD_sum ok.calm⟩
  · exact .inl ⟨_, PyProof.Rows.boot_sorted, crD_sort ok.hu⟩
  · exact .inl ⟨_, PyProof.Rows.boot_abs, crD_abs⟩
  · exact .inl ⟨_, PyProof.Rows.boot_max, crD_max2 ok.calm⟩
  · exact .inl ⟨_, PyProof.Rows.boot_min, crD_min2 ok.calm⟩
  · exact .inl ⟨_, PyProof.Rows.boot_repr, crD_repr ok.hu ok.gu⟩
theorem ckBlt_ok {bb : Blt} {es : ME} (ok : XOk C G X) (ih : Sound C G es) (h : ckBlt C.gcd bb es (ck C X.N es) X.env.scope (.e x) = true) : PE X x (tE X.K G (.blt bb es)) ∧ ∀ whole, isTrue x X.env whole = (do let v ← whole; standAt x.pos; holding [v] (truthy v)) := by
  cases x <;> first | (cases h; done) | skip
  rename_i fn args kws pos
  cases fn <;> first | (cases h; done) | skip
  rename_i f p
  rcases args with _ | ⟨x, xs⟩ <;> first | (cases h; done) | skip
  rcases kws with _ | ⟨k, kws⟩ <;> first | (cases h; done) | skip
  have h : ((match bb with | .gcd => C.gcd && decide (f = "gcd") | .isi _ => false | b => (match bltV b with | some (y, _) => decide (f = y) | none => false)) && (glB X.env.scope f && (ck C X.N es X.env.scope (.a (x :: xs)) && allL es))) = true := by
    cases bb <;> exact h
  simp only [Bool.and_eq_true] at h
  obtain ⟨h1, h2, h3, h4⟩ := h
  have ha := ih.a X ok _ h3
  have hst := ck_stars h3
  refine ⟨?_, fun _ => rfl⟩
  by_cases hg : bb = .gcd
  · subst hg
    have h1 : C.gcd = true ∧ f = "gcd" := by simpa using h1
    obtain ⟨h0, rfl⟩ := h1
    obtain ⟨g1, g2, g3⟩ := glB_ok h2
    exact PE.by (L2.pe_callBfun crD_gcd g1 (ok.gcd h0) ha g2 (star_cons (hst x List.mem_cons_self)) (star_any fun y hy => hst y (List.mem_cons_of_mem _ hy))) fun σ H Q => r_blt h4
  · cases e : bltV bb with
    | none => cases bb <;> first | (cases h1; done) | (cases e; done) | exact absurd rfl hg
    | some q =>
      obtain ⟨y, v⟩ := q
      have hy : f = y := by
        cases bb <;> first | (cases e; done) | (cases e; simpa [bltV] using h1)
      subst hy
      obtain ⟨r1, r2⟩ := blt_row ok e
      exact pe_blt ok r2 r1 h2 hst ha h4
/-! ### isinstance -/
theorem ty_boot : ∀ t ∈ tyNames, bootBuiltins (Str.ofString t) = some (.type t) ∧ Str.ofString t ∈ bltNames := by
  intro t h
  simp only [tyNames, List.mem_cons, List.not_mem_nil, or_false] at h
  rcases h with rfl | rfl | rfl | rfl | rfl | rfl
  · exact ⟨PyProof.Rows.boot_int, by decide +kernel⟩
  · exact ⟨PyProof.Rows.boot_bool, by decide +kernel⟩
  · exact ⟨PyProof.Rows.boot_str, by decide +kernel⟩
  · exact ⟨PyProof.Rows.boot_list, by decide +kernel⟩
  · exact ⟨PyProof.Rows.boot_tuple, by decide +kernel⟩
  · exact ⟨PyProof.Rows.boot_dict, by decide +kernel⟩
theorem ckTy_ok {t : String} (ok : XOk C G X) (h : ckTy X.env.scope t x = true) : t ∈ tyNames ∧ star x = false ∧ PE X x (tC (.ty t)) := by
  cases x <;> first | (cases h; done) | skip
  rename_i y q
  have h : (decide (y = Str.ofString t) && glB X.env.scope y && tyNames.contains t) = true := h
  simp only [Bool.and_eq_true, decide_eq_true_eq] at h
  obtain ⟨⟨rfl, h2⟩, h3⟩ := h
  have ht := List.contains_iff_mem.mp h3
  obtain ⟨g1, g2, g3⟩ := glB_ok h2
  obtain ⟨b1, b2⟩ := ty_boot t ht
  exact ⟨ht, rfl, pe_bltn g1 (ok.blt _ b2) b1 rfl g3 g2⟩
def tTys : List String → TA
  | [] => tNil
  | t :: ts => tCons (tC (.ty t)) (tTys ts)
theorem tTys_ok {σ : L2.St} {H : Hp} : ∀ {ts : List String} {Q : List V → Hp → Prop}, Q (ts.map V.ty) H → tTys ts σ H Q
  | [], _, h => h
  | t :: ts, Q, h => tTys_ok (ts := ts) (Q := fun xs H2 => Q (.ty t :: xs) H2) h
theorem ckTys_ok (ok : XOk C G X) : ∀ {ts : List String} {xs : List Expr}, ckTys X.env.scope ts xs = true → (∀ t ∈ ts, t ∈ tyNames) ∧ PA X xs (tTys ts)
  | [], [], _ => ⟨fun _ h => (nomatch h), pa_nil⟩
  | [], _ :: _, h => by cases h
  | _ :: _, [], h => by cases h
  | t :: ts, x :: xs, h => by
    have h : (ckTy X.env.scope t x && ckTys X.env.scope ts xs) = true := h
    rw [Bool.and_eq_true] at h
    obtain ⟨h1, h2, h3⟩ := ckTy_ok ok h.1
    obtain ⟨h4, h5⟩ := ckTys_ok ok h.2
    refine ⟨fun u hu => ?_, pa_cons h3 h5 (star_cons h2)⟩
    rcases List.mem_cons.mp hu with rfl | hu
    · exact h1
    · exact h4 u hu
theorem ckIsi_ok {ts : List String} (ok : XOk C G X) (ih : Sound C G m) (h : ckIsi ts m (ck C X.N m) X.env.scope (.e x) = true) : PE X x (tE X.K G (.blt (.isi ts) (.cons m .nil))) ∧ ∀ whole, isTrue x X.env whole = (do let v ← whole; standAt x.pos; holding [v] (truthy v)) := by
  cases x <;> first | (cases h; done) | skip
  rename_i fn args kws pos
  cases fn <;> first | (cases h; done) | skip
  rename_i f p
  rcases args with _ | ⟨x, _ | ⟨y, _ | ⟨z, xs⟩⟩⟩ <;> first | (cases h; done) | skip
  rcases kws with _ | ⟨k, kws⟩ <;> first | (cases h; done) | skip
  refine ⟨?_, fun _ => rfl⟩
  have h : (decide (f = "isinstance") && (glB X.env.scope f && (!star x && (ck C X.N m X.env.scope (.e x) && (isE m && ckIsiT ts X.env.scope y))))) = true := h
  simp only [Bool.and_eq_true, Bool.not_eq_true', decide_eq_true_eq] at h
  obtain ⟨rfl, h2, h3, h4, h5, h6⟩ := h
  obtain ⟨g1, g2, g3⟩ := glB_ok h2
  have px := ih.e X ok x h4
  have bm : X.mg "isinstance" = none := ok.blt _ (by decide +kernel)
  cases y <;> first | (cases h6; done) | skip
  · rename_i z q
    rcases ts with _ | ⟨t, _ | ⟨t2, ts⟩⟩ <;> first | (cases h6; done) | skip
    obtain ⟨t1, t2, t3⟩ := ckTy_ok ok (show ckTy X.env.scope t (.Name z q) = true from h6)
    have pa : PA X [x, .Name z q] (tCons (tE X.K G m) (tCons (tC (.ty t)) tNil)) := pa_cons px (pa_cons t3 pa_nil (star_cons t2)) (star_cons h3)
    refine PE.by (pe_callB (crD_isi (t := t) t1) g1 bm PyProof.Rows.boot_isinstance pa g3 g2 (star_cons h3) (star_any fun y hy => ?_)) fun σ H Q h => ?_
    · have : y = .Name z q := by simpa using hy
      subst this
      rfl
    · refine tE_mono (fun v H1 ⟨N, d, nd, lk, q⟩ => ?_) (r_isi h5 h)
      exact ⟨N, d, v, rfl, nd, lk, (q 0 (.inr rfl)).2⟩
  · rename_i ys k q
    have h6 : (!ts.isEmpty && (decide (ts.length ≤ 100) && (ts.length != 1 && ckTys X.env.scope ts ys))) = true := h6
    simp only [Bool.and_eq_true, decide_eq_true_eq] at h6
    obtain ⟨n0, hz, n1, h7⟩ := h6
    obtain ⟨t1, t2⟩ := ckTys_ok ok h7
    have pa : PA X [x, .Tuple ys k q] (tCons (tE X.K G m) (tCons (tTup (tTys ts)) tNil)) := pa_cons px (pa_cons (pe_tup t2) pa_nil) (star_cons h3)
    refine PE.by (pe_callB (crD_isiT (ts := ts) t1 (by intro e; rw [e] at n0; cases n0)) g1 bm PyProof.Rows.boot_isinstance pa g3 g2 (star_cons h3) (star_any fun y hy => ?_)) fun σ H Q h => ?_
    · have : y = .Tuple ys k q := by simpa using hy
      subst this
      rfl
    · refine tE_mono (fun v H1 ⟨N, d, nd, lk, q⟩ => ?_) (r_isi h5 h)
      refine tTys_ok ⟨by rw [List.length_map]; exact lim_line (Nat.le_trans hz (by decide)), fun p hp => ?_⟩
      refine ⟨N, d, v, p, rfl, upd_same, nd, ?_, (q p (.inl hp)).1 (by simpa using n1)⟩
      exact look_keep (stay_laid hp) (fun a o e => by rw [upd_ne (ne_of_none e hp)]; exact e) lk
theorem s_blt {bb : Blt} {es : ME} (ih : Sound C G es) (ihi : ∀ m, es = .cons m .nil → Sound C G m) : Sound C G (.blt bb es) := by
  have key : ∀ X, XOk C G X → ∀ x, ck C X.N (.blt bb es) X.env.scope (.e x) = true → PE X x (tE X.K G (.blt bb es)) ∧ ∀ whole, isTrue x X.env whole = (do let v ← whole; standAt x.pos; holding [v] (truthy v)) := by
    intro X ok x h
    by_cases hi : ∃ ts m, bb = .isi ts ∧ es = .cons m .nil
    · obtain ⟨ts, m, rfl, rfl⟩ := hi
      exact ckIsi_ok ok (ihi m rfl) h
    · have e : ck C X.N (.blt bb es) = ckBlt C.gcd bb es (ck C X.N es) := by
        cases bb <;> first | rfl | skip
        rename_i ts
        cases es <;> first | rfl | skip
        rename_i m es
        cases es <;> first | rfl | exact absurd ⟨ts, m, rfl, rfl⟩ hi
      rw [e] at h
      exact ckBlt_ok ok ih h
  refine .of (fun X ok x h => (key X ok x h).1) (fun X ok x h hl pe => pt_plain hl pe (key X ok x h).2) (fun N sc xs => ck_blt_na.1 xs) (fun N sc tg x => ck_blt_na.2 tg x)
end
end Mini

set_option Elab.async false
set_option linter.all false
set_option maxHeartbeats 2000000
/-! Mini: a checked expression does what its Mini expression evaluates to: calls, comprehensions, walks; the theorem. -/
namespace Mini
open PySem L2 PySem.Spec PyProof.Rows

section
variable {C : CkP} {G : Defs} {X : Cx} {m a b c : ME} {x : Expr}
/-! ### calls -/
theorem ck_len {N : List Str} {sc : Scope} : ∀ {es : ME} {xs : List Expr}, ck C N es sc (.a xs) = true → (listM es).length = xs.length ∧ (xs = [] → es = .nil) := by
  intro es
  induction es with
  | nil =>
    intro xs h
    cases xs with
    | nil => exact ⟨rfl, fun _ => rfl⟩
    | cons y ys => cases h
  | cons m es _ ih =>
    intro xs h
    cases xs with
    | nil => cases h
    | cons y ys =>
      have h : (!star y && (ck C N m sc (.e y) && (ck C N es sc (.a ys) && notB m es))) = true := h
      simp only [Bool.and_eq_true] at h
      exact ⟨by simp [listM, (ih h.2.2.1).1], fun e => by cases e⟩
  | op1 o a _ => intro xs h; cases o <;> cases h
  | blt b es _ => intro xs h; rw [ck_blt_na.1] at h; cases h
  | _ => intro xs h; cases h
theorem kw_len : ∀ {kws : List Keyword} {ns : List Str}, kwNames kws = some ns → (kwVals kws).length = ns.length ∧ kws.length = ns.length
  | [], ns, h => by cases h; exact ⟨rfl, rfl⟩
  | ⟨none, _, _⟩ :: _, _, h => by cases h
  | ⟨some y, v, q⟩ :: r, ns, h => by
    simp only [kwNames, Option.map_eq_some_iff] at h
    obtain ⟨ms, e, rfl⟩ := h
    obtain ⟨h1, h2⟩ := kw_len e
    exact ⟨by simp [kwVals, h1], by simp [h2]⟩
theorem plain_names : ∀ {kws : List Keyword}, plainKw kws = true → ∃ ns, kwNames kws = some ns
  | [], _ => ⟨[], rfl⟩
  | ⟨none, _, _⟩ :: _, h => by cases h
  | ⟨some y, v, q⟩ :: r, h => by
    have h : (!star v && plainKw r) = true := h
    rw [Bool.and_eq_true] at h
    obtain ⟨ns, e⟩ := plain_names h.2
    exact ⟨y :: ns, by simp [kwNames, e]⟩
theorem call_inv {f r : Nat} {io : List (Option (Nat × Nat))} {es ks : ME} {kw : List Nat} (h : ck C X.N (.call f r io es ks kw) X.env.scope (.e x) = true) :
    ∃ y p xs kws pos df ns, x = .Call (.Name y p) xs kws pos ∧ C.P f = some df ∧ df.nm = y ∧ df.ret = r ∧ io.length = df.ps.length ∧ (xs.length, ns, kw) ∈ df.kws ∧ io.map ioLv = df.ms ∧ kwNames kws = some ns ∧ glB X.env.scope y = true ∧ plainKw kws = true ∧
      ioOk io (permL (listM es ++ listM ks) kw) = true ∧ (∀ m ∈ listM es, isBk m = false) ∧ (iosOf io).Nodup ∧ ck C X.N es X.env.scope (.a xs) = true ∧ ck C X.N ks X.env.scope (.a (kwVals kws)) = true := by
  cases x <;> first | (cases h; done) | skip
  rename_i fn xs kws pos
  cases fn <;> first | (cases h; done) | skip
  rename_i y p
  cases ed : C.P f with
  | none =>
    have h : ((match C.P f with
      | some df => decide (df.nm = y) && (decide (df.ret = r) && (decide (io.length = df.ps.length) && (df.kws.contains (xs.length, (kwNames kws).getD [], kw) && (decide (io.map ioLv = df.ms) && (decide (kw.length = df.ps.length) && decide (xs.length + kws.length = df.ps.length))))))
      | none => false) && _) = true := h
    rw [ed] at h
    cases h
  | some df =>
    have h : ((match C.P f with
      | some df => decide (df.nm = y) && (decide (df.ret = r) && (decide (io.length = df.ps.length) && (df.kws.contains (xs.length, (kwNames kws).getD [], kw) && (decide (io.map ioLv = df.ms) && (decide (kw.length = df.ps.length) && decide (xs.length + kws.length = df.ps.length))))))
      | none => false) && (glB X.env.scope y && (plainKw kws && (ioOk io (permL (listM es ++ listM ks) kw) && ((listM es).all (fun m => !isBk m) && decide ((iosOf io).Nodup) && (ck C X.N es X.env.scope (.a xs) && ck C X.N ks X.env.scope (.a (kwVals kws)))))))) = true := h
    rw [ed] at h
    simp only [Bool.and_eq_true, decide_eq_true_eq, List.contains_iff_mem, List.all_eq_true, Bool.not_eq_true'] at h
    obtain ⟨⟨h1, h2, h3, h4, h5, h6, h7⟩, h8, h9, h10, ⟨h11, h12⟩, h13, h14⟩ := h
    obtain ⟨ns, e⟩ := plain_names h9
    rw [e] at h4
    exact ⟨y, p, xs, kws, pos, df, ns, rfl, rfl, h1, h2, h3, h4, h5, e, h8, h9, h10, h11, h12, h13, h14⟩
theorem s_call {f r : Nat} {io : List (Option (Nat × Nat))} {es ks : ME} {kw : List Nat} (ihs : Sound C G es) (ihk : Sound C G ks) : Sound C G (.call f r io es ks kw) := by
  refine .of (fun X ok x h => ?_) (fun X ok x h hl pe => ?_) (fun N sc xs => rfl) (fun N sc tg x => rfl)
  · obtain ⟨y, p, xs, kws, pos, df, ns, rfl, ed, rfl, h2, h3, h4, h5, hns, h8, h9, h10, h11, h12, h13, h14⟩ := call_inv h
    obtain ⟨g1, g2, g3⟩ := glB_ok h8
    obtain ⟨k, ad, fd, c1, c2, c3, c4, c5⟩ := ok.call f df ed
    have pk := ihk.k X ok kws h9 h14
    have l1 := (ck_len h13).1
    have l2 := (ck_len h14).1
    rw [(kw_len hns).1] at l2
    have rr : ∀ (σ : L2.St) (H : Hp) (Q : VK), tE X.K G (.call f r io es ks kw) σ H Q → tCallD X.K df (G f) kw xs.length ns.length (tAr X.K G es) (tAr X.K G ks) σ H (Kq X.K Q) := fun σ H Q h => by
      have q := r_call h2 h5 h3 h10 h11 h12 h
      rw [l1, l2] at q
      exact q
    cases xs with
    | nil =>
      have e := (ck_len h13).2 rfl
      subst e
      refine PE.by (pe_callD0 c5 c4 ok.gu g1 c1 c2 c3 hns h4 pk g2) fun σ H Q h => ?_
      exact r_nil (rr σ H Q h)
    | cons x xs =>
      exact PE.by (pe_callD1 c5 c4 ok.gu g1 c1 c2 c3 hns h4 (ck_stars h13) (ihs.a X ok _ h13) pk g2) rr
  · obtain ⟨y, p, xs, kws, pos, df, ns, rfl, _⟩ := call_inv h
    exact pt_plain hl pe fun _ => rfl

/-! ### comprehensions -/
theorem fsi {iter : Expr} {env : Env} (h : isSet iter = false) (v : Value) : foldedSetIterable iter env v = pure v := by
  cases iter <;> first | (cases h; done) | rfl
theorem blk_ok (ok : XOk C G X) {s : Shared} {H : Hp} {scope : Scope} {env : Env} {fp : List Addr} : XOk C G (X.blk s H scope env fp) :=
  ⟨ok.nd, ok.calm, ok.hu, ok.gu, rfl, ok.blt, ok.gcd, ok.gc, ok.call⟩
theorem plc_own {N : List Str} {sc scope : Scope} {own : List (Str × Nat)} (hN : N.Nodup) (bk : BlkOk N sc scope own) : ∀ {t : Tgt} {xs : List Expr}, ckT true N (relS scope sc) t xs = true → ∀ i ∈ plcT t, i ∈ own.map (·.2) := by
  intro t
  induction t with
  | nm i =>
    intro xs h j hj
    have : j = i := by simpa [plcT] using hj
    subst this
    rcases xs with _ | ⟨x, _ | ⟨x2, xs⟩⟩ <;> first | (cases h; done) | skip
    · cases x <;> first | (cases h; done) | skip
      rename_i x pos
      have h : (decide (N[j]? = some x) && stB true (relS scope sc) x) = true := h
      rw [Bool.and_eq_true, decide_eq_true_eq] at h
      obtain ⟨h1, h2⟩ := h
      have hl : (relS scope sc).names.lookup x = some .local := by
        unfold stB at h2
        split at h2
        · assumption
        · cases h2
        · cases h2
      obtain ⟨k', e, q⟩ := lookup_relS hl
      have e2 : k' = .local := by
        rcases q with q | ⟨_, q⟩
        · exact q.symm
        · cases q
      subst e2
      rcases bk.own (x, .local) (PySem.mem_of_lookup e) (.inl rfl) with q | q
      · obtain ⟨⟨y, k⟩, hk, rfl⟩ := List.mem_map.mp q
        have e3 := bk.ix _ hk
        have : k = j := nodup_ix hN e3 h1
        subst this
        exact List.mem_map.mpr ⟨_, hk, rfl⟩
      · exact absurd (List.mem_of_getElem? h1) q
    · cases x <;> cases h
  | tup ts ih =>
    intro xs h
    rcases xs with _ | ⟨x, _ | ⟨x2, xs⟩⟩ <;> first | (cases h; done) | skip
    · cases x <;> first | (cases h; done) | skip
      exact ih h
    · cases x <;> cases h
  | nil => intro xs _ i hi; cases hi
  | cons t ts ih1 ih2 =>
    intro xs h i hi
    cases xs with
    | nil => cases h
    | cons x xs =>
      have h : (!star x && (ckT true N (relS scope sc) t [x] && ckT true N (relS scope sc) ts xs)) = true := h
      simp only [Bool.and_eq_true] at h
      rcases List.mem_append.mp hi with hi | hi
      · exact ih1 h.2.1 i hi
      · exact ih2 h.2.2 i hi
theorem comp_inv {own : List (Str × Nat)} {t : Tgt} {it c e : ME} (h : ck C X.N (.comp own t it c e) X.env.scope (.e x) = true) :
    ∃ elt tg iter ifs scope pos, x = .ListComp elt [⟨tg, iter, ifs, 0⟩] scope pos ∧ blkC X.N X.env.scope scope own = true ∧ ck C X.N it X.env.scope (.it tg iter) = true ∧ (okT t).1 = true ∧ ckT true X.N (relS scope X.env.scope) t [tg] = true ∧ isE e = true ∧ isL c = true ∧
      (∀ i ∈ bsl it, i ∉ eff c ++ eff e ++ own.map (·.2)) ∧ ck C X.N e (relS scope X.env.scope) (.e elt) = true ∧ ((ifs = [] ∧ c = .cst (.bool true)) ∨ ∃ y, ifs = [y] ∧ ck C X.N c (relS scope X.env.scope) (.e y) = true) := by
  replace h : ckComp X.N own t it c e (ck C X.N it) (ck C X.N c) (ck C X.N e) X.env.scope (.e x) = true := h
  unfold ckComp at h
  split at h
  · rename_i elt tg iter ifs scope pos e0
    cases e0
    simp only [Bool.and_eq_true] at h
    obtain ⟨h1, h2, ⟨h3, h4⟩, h5, h6, h7, h8, h9⟩ := h
    refine ⟨elt, tg, iter, ifs, scope, pos, rfl, h1, h2, h3, h4, h5, h6, fun i hi q => ?_, h9, ?_⟩
    · rw [List.all_eq_true] at h7
      have := h7 i hi
      rw [Bool.not_eq_true', ← Bool.not_eq_true, List.contains_iff_mem] at this
      exact this q
    · unfold ckIfs at h8
      split at h8
      · split at h8
        · exact .inl ⟨rfl, rfl⟩
        · cases h8
      · exact .inr ⟨_, rfl, h8⟩
      · cases h8
  · cases h
theorem s_comp {own : List (Str × Nat)} {t : Tgt} {it c e : ME} (ihi : Sound C G it) (ihc : Sound C G c) (ihe : Sound C G e) : Sound C G (.comp own t it c e) := by
  refine .of (fun X ok x h => ?_) (fun X ok x h hl pe => ?_) (fun N sc xs => rfl) (fun N sc tg x => rfl)
  · obtain ⟨elt, tg, iter, ifs, scope, pos, rfl, h1, h2, h3, h4, h5, h6, h7, h9, h8⟩ := comp_inv h
    have bk := blkOk_by h1
    obtain ⟨p1, p2⟩ := ihi.i X ok tg iter h2
    refine PE.by (pe_lc (own := own) (g := (gTT X.K t).1) (tt := tTs X.K G c) (te := tE X.K G e) ok.calm ok.nd p1 bk (fun s H D cl fp => ?_) (fun s H D cl fp => ?_) (fun s H D cl fp => ?_) (fsi p2)) fun σ H Q h => r_comp h3 (plc_own ok.nd bk h4) h5 h7 h
    · exact (pg_tgt (X := X.blk s H scope (compEnvC scope cl D X.env) fp) (blk := true) ok.nd ok.calm (fun h => by cases h) t).1 h3 tg h4
    · rcases h8 with ⟨rfl, rfl⟩ | ⟨y, rfl, h8⟩
      · refine ⟨fun pins s' σ H' Q I hw => pts_nil.run pins s' σ H' Q I ?_⟩
        obtain ⟨B, ρ, O, sr, q⟩ := hw
        exact q H' O sr Chg.refl
      · exact pts_one (ihc.t (X.blk s H scope (compEnvC scope cl D X.env) fp) (blk_ok ok) y h8 h6)
    · exact ihe.e (X.blk s H scope (compEnvC scope cl D X.env) fp) (blk_ok ok) elt h9
  · obtain ⟨elt, tg, iter, ifs, scope, pos, rfl, _⟩ := comp_inv h
    exact pt_plain hl pe fun _ => rfl

/-! ### walks -/
theorem PI.by {tg : Expr} {wi wi' : TI} (h : PI X tg x wi) (k : ∀ σ H R, wi' σ H R → wi σ H R) : PI X tg x wi' := ⟨fun pins s σ H R I q => h.run pins s σ H R I (k σ H R q)⟩
theorem Sound.ofI (i : ∀ X, XOk C G X → ∀ tg x, ck C X.N m X.env.scope (.it tg x) = true → PI X tg x (tIt X.K G m) ∧ isSet x = false) (na : ∀ N sc xs, ck C N m sc (.a xs) = false) (ne : ∀ N sc x, ck C N m sc (.e x) = false) : Sound C G m :=
  ⟨fun X ok x h => (by rw [ne] at h; cases h), fun X ok x h => (by rw [ne] at h; cases h), fun X ok xs h => (by rw [na] at h; cases h), i, fun X ok ks keys vs pos _ _ h => (by rw [na] at h; cases h), fun X ok kws _ h => (by rw [na] at h; cases h)⟩
theorem s_val (ih : Sound C G a) : Sound C G (.val a) := by
  refine .ofI (fun X ok tg x h => ?_) (fun N sc xs => rfl) (fun N sc x => rfl)
  have h : (ck C X.N a X.env.scope (.e x) && (okVal a && !isSet x)) = true := h
  simp only [Bool.and_eq_true, Bool.not_eq_true'] at h
  obtain ⟨h1, h2, h3⟩ := h
  refine ⟨?_, h3⟩
  by_cases hb : ∃ n i, a = .bor n i
  · obtain ⟨n, i, rfl⟩ := hb
    have h2 : (n == 0 || n == 1) = true := h2
    simp only [Bool.or_eq_true, beq_iff_eq] at h2
    cases x <;> first | (cases h1; done) | skip
    obtain ⟨q1, q2, q3, q4⟩ := nmB_ok (show nmB X.N X.env.scope i _ = true from h1)
    exact PI.by (pi_any (pe_var q1 q2 q3 q4)) fun σ H R => r_val_b h2
  · have e : okVal a = (isL a && !isBk a) := by
      cases a <;> first | rfl | exact absurd ⟨_, _, rfl⟩ hb
    rw [e] at h2
    simp only [Bool.and_eq_true, Bool.not_eq_true'] at h2
    exact PI.by (pi_any (ih.e X ok x h1)) fun σ H R => r_val_e h2.2 h2.1
theorem s_rng1 (ih : Sound C G a) : Sound C G (.rng1 a) := by
  refine .ofI (fun X ok tg x h => ?_) (fun N sc xs => rfl) (fun N sc x => rfl)
  cases x <;> first | (cases h; done) | skip
  rename_i fn xs kws pos
  cases fn <;> first | (cases h; done) | skip
  rename_i f p
  rcases xs with _ | ⟨x, _ | ⟨y, xs⟩⟩ <;> first | (cases h; done) | skip
  rcases kws with _ | ⟨k, kws⟩ <;> first | (cases h; done) | skip
  have h : (decide (f = "range") && (glB X.env.scope f && (!star x && (ck C X.N a X.env.scope (.e x) && isE a)))) = true := h
  simp only [Bool.and_eq_true, Bool.not_eq_true', decide_eq_true_eq] at h
  obtain ⟨rfl, h1, h2, h3, h4⟩ := h
  obtain ⟨g1, g2, g3⟩ := glB_ok h1
  exact ⟨PI.by (pi_range1 g1 (ok.blt _ (by decide +kernel)) (pa_cons (ih.e X ok x h3) pa_nil (star_cons h2)) (star_cons h2)) fun σ H R => r_rng1 h4, rfl⟩
theorem s_rng2 (iha : Sound C G a) (ihb : Sound C G b) : Sound C G (.rng2 a b) := by
  refine .ofI (fun X ok tg x h => ?_) (fun N sc xs => rfl) (fun N sc x => rfl)
  cases x <;> first | (cases h; done) | skip
  rename_i fn xs kws pos
  cases fn <;> first | (cases h; done) | skip
  rename_i f p
  rcases xs with _ | ⟨x, _ | ⟨y, _ | ⟨z, xs⟩⟩⟩ <;> first | (cases h; done) | skip
  rcases kws with _ | ⟨k, kws⟩ <;> first | (cases h; done) | skip
  have h : (decide (f = "range") && (glB X.env.scope f && (!star x && (!star y && (ck C X.N a X.env.scope (.e x) && (isE a && (ck C X.N b X.env.scope (.e y) && isE b))))))) = true := h
  simp only [Bool.and_eq_true, Bool.not_eq_true', decide_eq_true_eq] at h
  obtain ⟨rfl, h1, h2, h2', h3, h4, h5, h6⟩ := h
  obtain ⟨g1, g2, g3⟩ := glB_ok h1
  exact ⟨PI.by (pi_range2 g1 (ok.blt _ (by decide +kernel)) (pa_cons (iha.e X ok x h3) (pa_cons (ihb.e X ok y h5) pa_nil (star_cons h2')) (star_cons h2)) (by rw [star_cons h2, star_cons h2']; rfl) (star_cons h2')) fun σ H R => r_rng2 h4 h6, rfl⟩
theorem s_zip (iha : Sound C G a) (ihb : Sound C G b) : Sound C G (.zip a b) := by
  refine .ofI (fun X ok tg x h => ?_) (fun N sc xs => rfl) (fun N sc x => rfl)
  cases tg <;> first | (cases h; done) | skip
  cases x <;> first | (cases h; done) | skip
  rename_i fn xs kws pos
  cases fn <;> first | (cases h; done) | skip
  rename_i f p
  rcases xs with _ | ⟨x, _ | ⟨y, _ | ⟨z, xs⟩⟩⟩ <;> first | (cases h; done) | skip
  rcases kws with _ | ⟨k, kws⟩ <;> first | (cases h; done) | skip
  have h : (decide (f = "zip") && (glB X.env.scope f && (!star x && (!star y && (ck C X.N a X.env.scope (.e x) && (isE a && (ck C X.N b X.env.scope (.e y) && isE b))))))) = true := h
  simp only [Bool.and_eq_true, Bool.not_eq_true', decide_eq_true_eq] at h
  obtain ⟨rfl, h1, h2, h2', h3, h4, h5, h6⟩ := h
  obtain ⟨g1, g2, g3⟩ := glB_ok h1
  exact ⟨PI.by (RZ.pi_zipA g1 (ok.blt _ (by decide +kernel)) (pa_cons (iha.e X ok x h3) (pa_cons (ihb.e X ok y h5) pa_nil (star_cons h2')) (star_cons h2)) (star_cons h2) (star_any fun z hz => by
    have : z = y := by simpa using hz
    subst this
    exact h2')) fun σ H R => r_zip h4 h6, rfl⟩

/-! ### pop, dicts -/
theorem s_pop {n i : Nat} {k : Option Str} : Sound C G (.pop n i k) := by
  have inv : ∀ {X : Cx} {x : Expr}, ck C X.N (.pop n i k) X.env.scope (.e x) = true → (∃ y p q q', x = .Call (.Attribute (.Name y p) "pop" q) [] [] q' ∧ nmB X.N X.env.scope i y = true ∧ k = none ∧ n = 1 ∧ (q.endLine == q'.line) = true) ∨
      ∃ y p s j p1 p2 q q', x = .Call (.Attribute (.Subscript (.Name y p) (.Constant (.str s) j p1) p2) "pop" q) [] [] q' ∧ nmB X.N X.env.scope i y = true ∧ k = some s ∧ n = 2 ∧ (q.endLine == q'.line) = true := by
    intro X x h
    replace h : ckPop X.N n i k X.env.scope (.e x) = true := h
    unfold ckPop at h
    split at h
    · rename_i y p m q q' e
      cases e
      simp only [Bool.and_eq_true, decide_eq_true_eq, beq_iff_eq] at h
      obtain ⟨h1, rfl, h3, rfl, h5⟩ := h
      cases k with
      | none => exact .inl ⟨y, p, q, q', rfl, h1, rfl, rfl, by simpa using h5⟩
      | some z => cases h3
    · rename_i y p s j p1 p2 m q q' e
      cases e
      simp only [Bool.and_eq_true, decide_eq_true_eq, beq_iff_eq] at h
      obtain ⟨h1, rfl, rfl, rfl, h5⟩ := h
      exact .inr ⟨y, p, s, j, p1, p2, q, q', rfl, h1, rfl, rfl, by simpa using h5⟩
    · cases h
  refine .of (fun X ok x h => ?_) (fun X ok x h hl pe => ?_) (fun N sc xs => rfl) (fun N sc tg x => rfl)
  · rcases inv h with ⟨y, p, q, q', rfl, h1, rfl, rfl, h5⟩ | ⟨y, p, s, j, p1, p2, q, q', rfl, h1, rfl, rfl, h5⟩
    · obtain ⟨q1, q2, q3, q4⟩ := nmB_ok h1
      exact PE.by (pe_bm0 PySem.F.plainAttrs_list PySem.F.slot_list_pop PySem.F.type_list_pop mt_pop (pe_var q1 q2 q3 q4) rfl h5) fun σ H Q => r_pop
    · obtain ⟨q1, q2, q3, q4⟩ := nmB_ok h1
      exact PE.by (pe_bm0 PySem.F.plainAttrs_list PySem.F.slot_list_pop PySem.F.type_list_pop mt_pop (pe_dget (by have := ok.hu; omega) (pe_var q1 q2 q3 q4) pe_str (fun _ _ => rfl)) rfl h5) fun σ H Q => r_popk
  · rcases inv h with ⟨y, p, q, q', rfl, _⟩ | ⟨y, p, s, j, p1, p2, q, q', rfl, _⟩
    · exact pt_plain hl pe fun _ => rfl
    · exact pt_plain hl pe fun _ => rfl
theorem keys_some : ∀ {ks : List Str} {keys : List (Option Expr)}, strKeys ks keys = true → keys.all (·.isSome) = true ∧ keys.length = ks.length
  | [], [], _ => ⟨rfl, rfl⟩
  | [], _ :: _, h => by cases h
  | _ :: _, [], h => by cases h
  | k :: ks, ke :: keys, h => by
    cases ke with
    | none => cases h
    | some ke =>
      cases ke <;> first | (cases h; done) | skip
      rename_i cc j p1
      cases cc <;> first | (cases h; done) | skip
      rename_i z
      have h : (decide (k = z) && strKeys ks keys) = true := h
      rw [Bool.and_eq_true] at h
      obtain ⟨h1, h2⟩ := keys_some h.2
      exact ⟨by rw [List.all_cons, h1]; rfl, by simp [h2]⟩
theorem s_dsp {ks : List Str} {es : ME} (ih : Sound C G es) : Sound C G (.dsp ks es) := by
  refine .of (fun X ok x h => ?_) (fun X ok x h hl pe => ?_) (fun N sc xs => rfl) (fun N sc tg x => rfl)
  · cases x <;> first | (cases h; done) | skip
    rename_i keys values pos
    have h : (strKeys ks keys && (nodupS ks && (ck C X.N es X.env.scope (.a values) && (allD es && (decide (ks.length = lenM es) && (decide (ks.length ≤ 15) && !ks.isEmpty)))))) = true := h
    simp only [Bool.and_eq_true, decide_eq_true_eq, Bool.not_eq_true'] at h
    obtain ⟨h1, h2, h3, h4, h5, h6, h7⟩ := h
    obtain ⟨k1, k2⟩ := keys_some h1
    have lv : values.length = ks.length := by rw [← (ck_len h3).1, lenM_list h4, h5]
    refine PE.by (pe_disp (ih.p X ok ks keys values pos h5 h1 h3) k1 (by rw [k2, lv]) (fun e => ?_) (by rw [k2]; exact h6)) fun σ H Q => r_dsp h4 h5 h2 h6
    subst e
    cases ks with
    | nil => cases h7
    | cons k ks => cases k2
  · cases x <;> first | (cases h; done) | skip
    exact pt_plain hl pe fun _ => rfl

/-- THE THEOREM, of expressions -/
theorem sound2 (C : CkP) (G : Defs) : ∀ m : ME, Sound C G m ∧ ∀ m', m = .cons m' .nil → Sound C G m' := by
  intro m
  induction m with
  | var i => exact ⟨s_name (fun _ => rfl) fun K σ H Q => r_var, fun _ e => by cases e⟩
  | bor n i => exact ⟨s_name (fun _ => rfl) fun K σ H Q => r_bor, fun _ e => by cases e⟩
  | frz i => exact ⟨s_name (fun _ => rfl) fun K σ H Q => r_frz, fun _ e => by cases e⟩
  | mov n i => exact ⟨s_name (fun _ => rfl) fun K σ H Q => r_mov, fun _ e => by cases e⟩
  | iou n i => exact ⟨s_name (fun _ => rfl) fun K σ H Q => r_iou, fun _ e => by cases e⟩
  | cst d => exact ⟨s_cst, fun _ e => by cases e⟩
  | glb x n => exact ⟨s_glb, fun _ e => by cases e⟩
  | flat a ih => exact ⟨s_flat ih.1, fun _ e => by cases e⟩
  | op1 o a ih => exact ⟨s_op1 ih.1, fun _ e => by cases e⟩
  | op2 o a b iha ihb => exact ⟨s_op2 iha.1 ihb.1, fun _ e => by cases e⟩
  | chn o o' a b c iha ihb ihc => exact ⟨s_chn iha.1 ihb.1 ihc.1, fun _ e => by cases e⟩
  | and a b iha ihb => exact ⟨s_and iha.1 ihb.1, fun _ e => by cases e⟩
  | or a b iha ihb => exact ⟨s_or iha.1 ihb.1, fun _ e => by cases e⟩
  | ife c a b ihc iha ihb => exact ⟨s_ife iha.1 ihb.1 ihc.1, fun _ e => by cases e⟩
  | tup es ih => exact ⟨s_tup ih.1, fun _ e => by cases e⟩
  | lst es ih => exact ⟨s_lst ih.1, fun _ e => by cases e⟩
  | nil => exact ⟨s_nil, fun _ e => by cases e⟩
  | cons m es ihm ihs => exact ⟨s_cons ihm.1 ihs.1, fun _ e => by cases e; exact ihm.1⟩
  | sub a b iha ihb => exact ⟨s_sub iha.1 ihb.1, fun _ e => by cases e⟩
  | key a k ih => exact ⟨s_key ih.1, fun _ e => by cases e⟩
  | slc a lo hi iha ihl ihh => exact ⟨s_slc iha.1 ihl.1 ihh.1, fun _ e => by cases e⟩
  | nop => exact ⟨s_nop, fun _ e => by cases e⟩
  | rev a ih => exact ⟨s_rev ih.1, fun _ e => by cases e⟩
  | blt b es ih => exact ⟨s_blt ih.1 ih.2, fun _ e => by cases e⟩
  | call f r io es ks kw ihs ihk => exact ⟨s_call ihs.1 ihk.1, fun _ e => by cases e⟩
  | comp own t it c e ihi ihc ihe => exact ⟨s_comp ihi.1 ihc.1 ihe.1, fun _ e => by cases e⟩
  | val a ih => exact ⟨s_val ih.1, fun _ e => by cases e⟩
  | rng1 a ih => exact ⟨s_rng1 ih.1, fun _ e => by cases e⟩
  | rng2 a b iha ihb => exact ⟨s_rng2 iha.1 ihb.1, fun _ e => by cases e⟩
  | zip a b iha ihb => exact ⟨s_zip iha.1 ihb.1, fun _ e => by cases e⟩
  | enm a ih => exact ⟨⟨fun X ok x h => (by cases h), fun X ok x h => (by cases h), fun X ok x h => (by cases h), fun X ok tg x h => (by cases h), fun X ok ks keys vs pos _ _ h => (by cases h), fun X ok kws _ h => (by cases h)⟩, fun _ e => by cases e⟩
  | pop n i k => exact ⟨s_pop, fun _ e => by cases e⟩
  | dsp ks es ih => exact ⟨s_dsp ih.1, fun _ e => by cases e⟩
theorem sound (C : CkP) (G : Defs) (m : ME) : Sound C G m := (sound2 C G m).1
end
end Mini

set_option Elab.async false
set_option linter.all false
set_option maxHeartbeats 2000000
/-! Mini: which written statements a Mini statement stands for; what it does. -/
namespace Mini
open PySem L2 PySem.Spec PyProof.Rows

/-! ### the checker -/
abbrev CsF := Scope → List Stmt → Bool
def isCompE : Expr → Bool
  | .ListComp _ _ _ _ => true
  | .SetComp _ _ _ _ => true
  | .DictComp _ _ _ _ _ => true
  | _ => false
def isTupE : Expr → Bool
  | .Tuple _ _ _ => true
  | _ => false
def isCompM : ME → Bool
  | .comp _ _ _ _ _ => true
  | _ => false
def isLC : Expr → Bool
  | .ListComp _ _ _ _ => true
  | _ => false
/-- name = value -/
def csNm (N : List Str) (i : Nat) (e : ME) (ce : CkF) : CsF
  | sc, [.Assign [.Name x _] v _] => decide (N[i]? = some x) && (stB false sc x && (ce sc (.e v) && (!isCompE v || (isCompM e && isLC v))))
  | _, _ => false
def csSkp : CsF
  | _, [] => true
  | _, [.Pass _] => true
  | _, [.Expr (.Constant (.str _) _ _) _] => true
  | _, _ => false
def csSeq (ca cb : CsF) : CsF
  | sc, s :: s2 :: r => ca sc [s] && cb sc (s2 :: r)
  | _, _ => false
/-- targets = value, unpacked -/
def csTup (N : List Str) (t : Tgt) (ce : CkF) : CsF
  | sc, [.Assign [.Tuple ts k p] v _] => (okT t).1 && (ckT false N sc t [.Tuple ts k p] && (ce sc (.e v) && !isTupE v))
  | _, _ => false
/-- the names that may be stored from the right -/
def swN (sc : Scope) (line : Nat) : Expr → Option Str
  | .Name id pos => if (sc.names.lookup id == some NameKind.local && pos.line == line) = true then some id else none
  | _ => none
def swNames (sc : Scope) (ts : List Expr) : List Str := ts.filterMap (swN sc ((ts.head?.map fun e => e.pos.line).getD 0))
/-- how a, b = x, y is stored: none (not known), some false (in order), some true (from the right) -/
def swK (sc : Scope) (ts vs : List Expr) : Option Bool :=
  if (!(ts.length == 2 || ts.length == 3) || vs.length != ts.length) = true then some false
  else if (vs.any star) = true then none
  else if ((swNames sc ts).length != ts.length || (swNames sc ts).eraseDups.length != (swNames sc ts).length) = true then some false
  else if (vs.all (foldedForSure 8)) = true then some false
  else if (vs.all (constantsAlone 8)) = true then none
  else some true
def ckNms (N : List Str) (sc : Scope) : List Nat → List Expr → Bool
  | [], [] => true
  | i :: r, .Name x _ :: ts => decide (N[i]? = some x) && (stB false sc x && ckNms N sc r ts)
  | _, _ => false
def parOk : List (Nat × Nat) → ME → Bool
  | [], .nil => true
  | (n, _) :: r, .cons m es => (if n == 0 then isE m else isF n m) && parOk r es
  | _, _ => false
def csPar (N : List Str) (ts : List (Nat × Nat)) (es : ME) (ce : CkF) : CsF
  | sc, [.Assign [.Tuple xs _ _] (.Tuple vs _ _) _] => ckNms N sc (ts.map (·.2)) xs && (decide ((ts.map (·.2)).Nodup) && (ce sc (.a vs) && (parOk ts es && ((swK sc xs vs).isSome && decide (ts.length ≤ LIM)))))
  | _, _ => false
def augB : Op2 → Operator → Bool
  | .add, .Add => true
  | .sub, .Sub => true
  | _, _ => false
def csAug (N : List Str) (i : Nat) (o : Op2) (e : ME) (ce : CkF) : CsF
  | sc, [.AugAssign (.Name x _) op v _] => decide (N[i]? = some x) && (stB false sc x && (augB o op && (ce sc (.e v) && isE e)))
  | _, _ => false
def csExp (ce : CkF) : CsF
  | sc, [.Expr v _] => ce sc (.e v) && !isCompE v
  | _, _ => false
def csRet (r : Nat) (e : ME) (ce : CkF) : CsF
  | sc, [.Return (some v) _] => ce sc (.e v) && (if r == 0 then isE e else isF r e)
  | _, _ => false
def csRtn : CsF
  | _, [.Return none _] => true
  | _, _ => false
def csIf (c : ME) (cc : CkF) (ca cb : CsF) : CsF
  | sc, [.If t a b _] => cc sc (.e t) && (isL c && (ca sc a && cb sc b))
  | _, _ => false
def csWhl (c : ME) (cc : CkF) (cb : CsF) : CsF
  | sc, [.While t b [] _] => cc sc (.e t) && (isL c && cb sc b)
  | _, _ => false
def csLop (N : List Str) (t : Tgt) (it : ME) (bad : List Nat) (ci : CkF) (cb : CsF) : CsF
  | sc, [.For tg x b [] _] => (okT t).1 && (ckT false N sc t [tg] && (ci sc (.it tg x) && (((bsl it).all fun i => !bad.contains i) && cb sc b)))
  | _, _ => false
def csBrk : CsF
  | _, [.Break _] => true
  | _, _ => false
def csCnt : CsF
  | _, [.Continue _] => true
  | _, _ => false
def csApp (N : List Str) (n i : Nat) (k : Option Str) (e : ME) (ce : CkF) : CsF
  | sc, [.Expr (.Call (.Attribute (.Name x _) m q) [v] [] q') _] => nmB N sc i x && (decide (m = "append") && (k.isNone && (n == 1 && (q.endLine == q'.line && (!star v && (ce sc (.e v) && (isE e && !(eff e).contains i)))))))
  | sc, [.Expr (.Call (.Attribute (.Subscript (.Name x _) (.Constant (.str s) _ _) _) m q) [v] [] q') _] =>
    nmB N sc i x && (decide (m = "append") && (decide (k = some s) && (n == 2 && (q.endLine == q'.line && (!star v && (ce sc (.e v) && (isE e && !(eff e).contains i)))))))
  | _, _ => false
def csSet (N : List Str) (n i : Nat) (ix e : ME) (ci ce : CkF) : CsF
  | sc, [.Assign [.Subscript (.Name x _) y _] v _] => nmB N sc i x && (n == 1 && (ci sc (.e y) && (ce sc (.e v) && (isE ix && (isE e && (!isSlice y && !(eff ix).contains i))))))
  | _, _ => false
def csSetK (N : List Str) (n i : Nat) (k : Str) (e : ME) (ce : CkF) : CsF
  | sc, [.Assign [.Subscript (.Name x _) (.Constant (.str s) _ _) _] v _] => nmB N sc i x && (n == 2 && (decide (k = s) && (ce sc (.e v) && isE e)))
  | _, _ => false
def csNvr : CsF
  | _, [.Raise _ _ _] => true
  | _, _ => false
/-- the places that a statement may change; whose slots it may store to -/
def effS : MS → List Nat
  | .seq a b => effS a ++ effS b
  | .asg t e => eff e ++ plcT t
  | .fre _ i e => eff e ++ [i]
  | .par ts es => eff es ++ ts.map (·.2)
  | .aug i _ e => eff e ++ [i]
  | .exp e => eff e
  | .ret e => eff e
  | .ifs c a b => eff c ++ effS a ++ effS b
  | .whl c b => eff c ++ effS b
  | .lop t it b => eff it ++ plcT t ++ effS b
  | .app _ i _ e => eff e ++ [i]
  | .set _ i ix e => eff e ++ eff ix ++ [i]
  | .setK _ i _ e => eff e ++ [i]
  | _ => []
def stoS : MS → List Nat
  | .seq a b => stoS a ++ stoS b
  | .asg t _ => plcT t
  | .fre _ i _ => [i]
  | .par ts _ => ts.map (·.2)
  | .aug i _ _ => [i]
  | .ifs _ a b => stoS a ++ stoS b
  | .whl _ b => stoS b
  | .lop t _ b => plcT t ++ stoS b
  | _ => []
def ckS (C : CkP) (N : List Str) (r : Nat) : MS → CsF
  | .skp => csSkp
  | .seq a b => csSeq (ckS C N r a) (ckS C N r b)
  | .asg (.nm i) e => fun sc sts => isE e && csNm N i e (ck C N e) sc sts
  | .asg t e => fun sc sts => isE e && csTup N t (ck C N e) sc sts
  | .fre n i e => fun sc sts => (isF n e && n != 0) && csNm N i e (ck C N e) sc sts
  | .par ts es => csPar N ts es (ck C N es)
  | .aug i o e => csAug N i o e (ck C N e)
  | .exp e => csExp (ck C N e)
  | .ret e => csRet r e (ck C N e)
  | .rtn => csRtn
  | .ifs c a b => csIf c (ck C N c) (ckS C N r a) (ckS C N r b)
  | .whl c b => csWhl c (ck C N c) (ckS C N r b)
  | .lop t it b => csLop N t it (plcT t ++ effS b) (ck C N it) (ckS C N r b)
  | .brk => csBrk
  | .cnt => csCnt
  | .app n i k e => csApp N n i k e (ck C N e)
  | .set n i ix e => csSet N n i ix e (ck C N ix) (ck C N e)
  | .setK n i k e => csSetK N n i k e (ck C N e)
  | .nvr => csNvr

/-! ### what a statement does -/
structure GotS (K : PySem.W.Frag) (B : Addr → Prop) (m : MS) (σ : L2.St) (H : Hp) (ρ : Rho) (O : Nat → List Addr) (σ' : L2.St) (H' : Hp) (ρ' : Rho) (O' : Nat → List Addr) : Prop where
  sr : SR K B σ' H' ρ' O'
  ch : Chg (fun j => j ∈ effS m) H ρ O H' ρ' O'
  len : σ'.length = σ.length
  out : ∀ j, j ∉ stoS m → σ'[j]? = σ[j]?
section
variable (K : PySem.W.Frag) (G : Defs) (fu rl : Nat)
def endS (B : Addr → Prop) (m : MS) (σ : L2.St) (H : Hp) (ρ : Rho) (O : Nat → List Addr) (D : Ends) : Fl × Rho → Prop
  | (.nx, ρ') => ∀ σ' H' O', GotS K B m σ H ρ O σ' H' ρ' O' → D.nx σ' H'
  | (.bk, ρ') => ∀ σ' H' O', GotS K B m σ H ρ O σ' H' ρ' O' → D.bk σ' H'
  | (.ct, ρ') => ∀ σ' H' O', GotS K B m σ H ρ O σ' H' ρ' O' → D.ct σ' H'
  | (.rt d, ρ') => ∀ v σ' H' O' as, GotS K B m σ H ρ O σ' H' ρ' O' → Own K (NN O' B) H' rl d v as → Fr (NN O' B) (fun j => j ∈ effS m) O H as → SR K (pl B as) σ' H' ρ' O' → Own K (NN O' (pl B as)) H' rl d v as → D.rt v H'
def tS (m : MS) : TS := fun D σ H => ∃ B ρ O, SR K B σ H ρ O ∧ (exS G fu m ρ).sat (endS K rl B m σ H ρ O D)
end
/-- what is known of a def's frame -/
structure SOk (C : CkP) (G : Defs) (X : Cx) : Prop extends XOk C G X where
  fnA : ∀ x, X.fn x = true
  kind : X.env.scope.kind = .function
structure SoundS (C : CkP) (G : Defs) (fu rl : Nat) (m : MS) : Prop where
  s : ∀ X, SOk C G X → ∀ st, ckS C X.N rl m X.env.scope [st] = true → PS X st (tS X.K G fu rl m)
  b : ∀ X, SOk C G X → ∀ sts, ckS C X.N rl m X.env.scope sts = true → PSs X sts (tS X.K G fu rl m)
theorem PS.by {X : Cx} {st : Stmt} {t t' : TS} (h : PS X st t) (k : ∀ D σ H, t' D σ H → t D σ H) : PS X st t' := ⟨fun pins s σ H D I q => h.run pins s σ H D I (k D σ H q)⟩
theorem PSs.by {X : Cx} {st : List Stmt} {t t' : TS} (h : PSs X st t) (k : ∀ D σ H, t' D σ H → t D σ H) : PSs X st t' := ⟨fun pins s σ H D I q => h.run pins s σ H D I (k D σ H q)⟩

section
variable {K : PySem.W.Frag} {B B' Bc : Addr → Prop} {N N' N1 N2 : Addr → Prop} {σ σ' σ1 σ2 : L2.St} {H H' H0 H1 H2 H3 : Hp} {ρ ρ' ρ0 ρ1 ρ2 ρ3 : Rho} {O O' O0 O1 O2 O3 Oc : Nat → List Addr} {S S' S1 S2 : Nat → Prop} {d d' : D} {v : V} {as bs : List Addr}
variable {G : Defs} {m a b c : ME} {Q : VK} {p q : Addr} {ds : List D} {o u : HO} {k : Str} {fu rl : Nat} {D : Ends}
/-- a place is given a value of its own -/
theorem set_own {i n : Nat} (r : SR K (pl B as) σ H ρ O) (own : Own K (NN O (pl B as)) H n d v as) (nd : as.Nodup) (fr : ∀ a ∈ as, ¬ NN O B a) (hi : i < ρ.length) : SR K B (σ.set i (some v)) H (ρ.set i (some (n, d))) (updO O i as) := by
  have sub : ∀ a, NN (updO O i as) B a → NN O (pl B as) a := fun a h => by
    rcases nn_upd.mp h with (h | ⟨j, _, h⟩) | b
    · exact .inr (.inr h)
    · exact .inl ⟨j, h⟩
    · exact .inr (.inl b)
  have keep : ∀ {n : Nat} {d : D} {v : V} {cs : List Addr}, Own K (NN O (pl B as)) H n d v cs → Own K (NN (updO O i as) B) H n d v cs := fun o => own_stay (stay_le sub) (fun _ _ _ e => e) o
  refine ⟨trivial, by rw [List.length_set, List.length_set]; exact r.len, fun j k x e => ?_, fun j e => ?_, fun j k a h1 h2 => ?_, fun j => ?_, fun j a h => ?_, fun a b => r.bt a (.inl b)⟩
  · rw [getS_set hi] at e
    by_cases c : j = i
    · subst c
      rw [if_pos rfl] at e
      cases e
      rw [updO_same]
      exact ⟨v, List.getElem?_set_self (by rw [r.len]; exact hi), keep own⟩
    · rw [if_neg c] at e
      obtain ⟨w, h1, h2⟩ := r.sl j k x e
      rw [updO_ne c]
      exact ⟨w, by rw [List.getElem?_set_ne (Ne.symm c)]; exact h1, keep h2⟩
  · rw [getS_set hi] at e
    by_cases c : j = i
    · rw [if_pos c] at e; cases e
    · rw [if_neg c] at e
      rw [updO_ne c]
      exact r.em j e
  · by_cases c : j = i
    · by_cases c2 : k = i
      · rw [c, c2]
      · rw [c, updO_same] at h1
        rw [updO_ne c2] at h2
        exact absurd (.inr h1) (r.nb k a h2)
    · rw [updO_ne c] at h1
      by_cases c2 : k = i
      · rw [c2, updO_same] at h2
        exact absurd (.inr h2) (r.nb j a h1)
      · rw [updO_ne c2] at h2
        exact r.dj j k a h1 h2
  · by_cases c : j = i
    · rw [c, updO_same]; exact nd
    · rw [updO_ne c]; exact r.nd j
  · by_cases c : j = i
    · rw [c, updO_same] at h
      exact fun b => fr a h (.inr b)
    · rw [updO_ne c] at h
      exact fun b => r.nb j a h (.inl b)
theorem chg_put {i : Nat} {x : Slot} (c : Chg S H0 ρ0 O0 H ρ O) (hS : ∀ j, S j → S' j) (hi : S' i) (fr : ∀ a ∈ as, (∃ k, S' k ∧ a ∈ O0 k) ∨ H0 a = none) (hl : i < ρ.length) : Chg S' H0 ρ0 O0 H (ρ.set i x) (updO O i as) := by
  refine ⟨fun j n => ?_, fun j a s h => ?_, fun a o h n => c.pres a o h fun k s => n k (hS k s), by rw [List.length_set]; exact c.len⟩
  · have nj : j ≠ i := fun e => n (by rw [e]; exact hi)
    have := c.same j fun s => n (hS j s)
    rw [getS_set hl, if_neg nj, updO_ne nj]
    exact this
  · by_cases e : j = i
    · rw [e, updO_same] at h
      exact fr a h
    · rw [updO_ne e] at h
      by_cases q : S j
      · exact (c.fresh j a q h).imp (fun ⟨k, s, z⟩ => ⟨k, hS k s, z⟩) id
      · rw [(c.same j q).2] at h
        exact .inl ⟨j, s, h⟩
/-- .. wherever the place lies -/
theorem set_any {i n : Nat} (r : SR K (pl B as) σ H ρ O) (own : Own K (NN O (pl B as)) H n d v as) (nd : as.Nodup) (fr : ∀ a ∈ as, ¬ NN O B a) (c : Chg S H0 ρ0 O0 H ρ O) (hS : ∀ j, S j → S' j) (hi : S' i) (f0 : ∀ a ∈ as, (∃ k, S' k ∧ a ∈ O0 k) ∨ H0 a = none) :
    ∃ O', SR K B (σ.set i (some v)) H (ρ.set i (some (n, d))) O' ∧ Chg S' H0 ρ0 O0 H (ρ.set i (some (n, d))) O' ∧ ∀ a, NN O' B a → NN O (pl B as) a := by
  by_cases hl : i < ρ.length
  · refine ⟨updO O i as, set_own r own nd fr hl, chg_put c hS hi f0 hl, fun a h => ?_⟩
    rcases nn_upd.mp h with (h | ⟨j, _, h⟩) | b
    · exact .inr (.inr h)
    · exact .inl ⟨j, h⟩
    · exact .inr (.inl b)
  · rw [List.set_eq_of_length_le (by rw [r.len]; omega), List.set_eq_of_length_le (by omega)]
    exact ⟨O, r.le pl_le, c.mono hS, nn_le pl_le⟩
theorem sat_eq {α : Type} {x : Out α} {P : α → Prop} {a : α} (h : x.sat P) (e : x = .ok a) : P a := by rw [e] at h; exact h

/-! ### atomic statements -/
theorem r_asg {i : Nat} (he : isE m = true) (h : tS K G fu rl (.asg (.nm i) m) D σ H) : tE K G m σ H fun x H1 => D.nx (σ.set i (some x)) H1 := by
  obtain ⟨B, ρ, O, sr, h⟩ := h
  simp only [exS, Out.sat_bind] at h
  refine ⟨B, ρ, O, sr, Out.sat_mono h fun ⟨x, ρ1⟩ _ h v H1 O1 as g => ?_⟩
  have r := isE_rep he (fun a m => (g.fr.2 a m).1) g.vr
  obtain ⟨O2, g2⟩ := set_one (i := i) g.sr r
  exact h _ H1 O2 ⟨g2.sr, (g.ch.mono fun j s => by simp [effS, s]).trans (g2.ch.mono fun j s => by simp only [effS, plcT, List.mem_append]; exact .inr s), g2.len, fun j hj => g2.out j (by simpa [stoS, plcT] using hj)⟩
theorem isF_own {n : Nat} {k : Kd} (hk : k = kd m) (h : isF n m = true) (n0 : n ≠ 0) (vr : VR K N σ H k d v as) : Own K N H n d v as := by
  subst hk
  unfold isF at h
  cases q : kd m with
  | e j =>
    rw [q] at h vr
    have h : j = n := by simpa using h
    subst h
    exact vr
  | f =>
    rw [q] at h vr
    have h : n = 1 := by simpa using h
    subst h
    exact vr.1
  | b j => rw [q] at h; cases h
  | r j => rw [q] at h; cases h
theorem r_fre {i n : Nat} (hf : isF n m = true) (n0 : n ≠ 0) (h : tS K G fu rl (.fre n i m) D σ H) : tE K G m σ H fun x H1 => D.nx (σ.set i (some x)) H1 := by
  obtain ⟨B, ρ, O, sr, h⟩ := h
  simp only [exS, Out.sat_bind] at h
  refine ⟨B, ρ, O, sr, Out.sat_mono h fun ⟨x, ρ1⟩ _ h v H1 O1 as g => ?_⟩
  have ow := isF_own rfl hf n0 g.vrs
  obtain ⟨O2, r2, c2, _⟩ := set_any (i := i) (S' := fun j => j ∈ effS (.fre n i m)) g.srs ow g.fr.1 (fun a m => (g.fr.2 a m).1) g.ch (fun j s => by simp [effS, s]) (by simp [effS]) (fun a h => (g.fr.2 a h).2.imp (fun ⟨k, s, q⟩ => ⟨k, by simp [effS, s], q⟩) id)
  exact h _ H1 O2 ⟨r2, c2, by rw [List.length_set], fun j hj => List.getElem?_set_ne (fun e => hj (by simp [stoS, e]))⟩
theorem r_ret (hr : (if rl == 0 then isE m else isF rl m) = true) (h : tS K G fu rl (.ret m) D σ H) : tE K G m σ H D.rt := by
  obtain ⟨B, ρ, O, sr, h⟩ := h
  simp only [exS, Out.sat_bind] at h
  refine ⟨B, ρ, O, sr, Out.sat_mono h fun ⟨x, ρ1⟩ _ h v H1 O1 as g => ?_⟩
  have gs : GotS K B (.ret m) σ H ρ O σ H1 ρ1 O1 := ⟨g.sr, g.ch, rfl, fun _ _ => rfl⟩
  by_cases c : rl = 0
  · subst c
    have r := isE_rep (by simpa using hr) (fun a m => (g.fr.2 a m).1) g.vr
    exact h v σ H1 O1 [] gs ⟨rfl, r⟩ Fr.nil (by rw [pl_nil]; exact g.sr) (by rw [pl_nil]; exact ⟨rfl, r⟩)
  · have hf : isF rl m = true := by simpa [c] using hr
    exact h v σ H1 O1 as gs (isF_own rfl hf c g.vr) g.fr g.srs (isF_own rfl hf c g.vrs)
end
end Mini

set_option Elab.async false
set_option linter.all false
set_option maxHeartbeats 2000000
/-! Mini: checked statements, the simple ones. -/
namespace Mini
open PySem L2 PySem.Spec PyProof.Rows

section
variable {K : PySem.W.Frag} {B B' Bc : Addr → Prop} {N N' N1 N2 : Addr → Prop} {σ σ' σ1 σ2 : L2.St} {H H' H0 H1 H2 H3 : Hp} {ρ ρ' ρ0 ρ1 ρ2 ρ3 : Rho} {O O' O0 O1 O2 O3 Oc : Nat → List Addr} {S S' S1 S2 : Nat → Prop} {d d' : D} {v : V} {as bs : List Addr}
variable {G : Defs} {m e a b c : ME} {Q : VK} {p q : Addr} {ds : List D} {o u : HO} {k : Str} {fu rl : Nat} {D : Ends}
theorem r_tup' {t : Tgt} (ht : (okT t).1 = true) (he : isE m = true) (h : tS K G fu rl (.asg t m) D σ H) : tAsg (tE K G m) (gTT K t).1 D σ H := by
  obtain ⟨B, ρ, O, sr, h⟩ := h
  simp only [exS, Out.sat_bind] at h
  refine ⟨B, ρ, O, sr, Out.sat_mono h fun ⟨x, ρ1⟩ _ h v H1 O1 as g => ?_⟩
  have r := isE_rep he (fun a m => (g.fr.2 a m).1) g.vr
  obtain ⟨ρ2, e2, h⟩ := sat_ok h
  refine (asg_ok t).1 ht g.sr r e2 fun σ2 O2 g2 => ?_
  exact h σ2 H1 O2 ⟨g2.sr, (g.ch.mono fun j s => by simp [effS, s]).trans (g2.ch.mono fun j s => by simp only [effS, List.mem_append]; exact .inr s), g2.len, fun j hj => g2.out j (by simpa [stoS] using hj)⟩
/-- several places are given values -/
def setAll (σ : L2.St) : List Nat → List V → L2.St
  | i :: is, v :: vs => setAll (σ.set i (some v)) is vs
  | _, _ => σ
theorem setAll_len : ∀ {is : List Nat} {vs : List V} {σ : L2.St}, (setAll σ is vs).length = σ.length
  | [], _, _ => rfl
  | _ :: _, [], _ => rfl
  | i :: is, v :: vs, σ => by rw [setAll, setAll_len, List.length_set]
theorem setAll_out : ∀ {is : List Nat} {vs : List V} {σ : L2.St} {j : Nat}, j ∉ is → (setAll σ is vs)[j]? = σ[j]?
  | [], _, _, _, _ => rfl
  | _ :: _, [], _, _, _ => rfl
  | i :: is, v :: vs, σ, j, h => by
    rw [List.mem_cons, not_or] at h
    rw [setAll, setAll_out h.2, List.getElem?_set_ne (fun e => h.1 e.symm)]
theorem par_ok : ∀ {ts : List (Nat × Nat)} {es : ME} {ds : List PyData} {vs : List V} {as : List Addr} {σ σ0 : L2.St} {ρ ρ' : Rho} {O : Nat → List Addr}, parOk ts es = true → SR K (pl B as) σ H ρ O → AR K (NN O (pl B as)) σ0 H (listM es) ds vs as → as.Nodup → (∀ a ∈ as, ¬ NN O B a) →
    Chg S H0 ρ0 O0 H ρ O → (∀ a ∈ as, (∃ k, S k ∧ a ∈ O0 k) ∨ H0 a = none) → (∀ i ∈ ts.map (·.2), S i) → parSet ρ ts ds = .ok ρ' → ∃ O', SR K B (setAll σ (ts.map (·.2)) vs) H ρ' O' ∧ Chg S H0 ρ0 O0 H ρ' O'
  | [], es, ds, vs, as, σ, σ0, ρ, ρ', O, hp, r, ar, nd, fr, c, f0, hs, e => by
    cases es <;> first | (cases hp; done) | skip
    cases ds <;> first | (cases e; done) | skip
    cases vs <;> first | exact ar.elim | skip
    have : as = [] := ar
    subst this
    cases e
    rw [pl_nil] at r
    exact ⟨O, r, c⟩
  | (n, i) :: ts, es, ds, vs, as, σ, σ0, ρ, ρ', O, hp, r, ar, nd, fr, c, f0, hs, e => by
    cases es <;> first | (cases hp; done) | skip
    rename_i m es
    have hp : ((if n == 0 then isE m else isF n m) && parOk ts es) = true := hp
    rw [Bool.and_eq_true] at hp
    cases ds <;> cases vs <;> first | exact ar.elim | skip
    rename_i d ds v vs
    obtain ⟨a1, a2, rfl, h1, h2⟩ := ar
    rw [List.nodup_append] at nd
    obtain ⟨n1, n2, n3⟩ := nd
    have e : parSet (ρ.set i (some (n, d))) ts ds = .ok ρ' := e
    have pa : pl (pl B a2) a1 = pl B (a1 ++ a2) := by
      funext x
      simp only [pl, List.mem_append]
      exact propext ⟨fun h => h.elim (fun h => h.elim .inl fun h => .inr (.inr h)) fun h => .inr (.inl h), fun h => h.elim (fun h => .inl (.inl h)) fun h => h.elim .inr fun h => .inl (.inr h)⟩
    have f1 : ∀ a ∈ a1, ¬ NN O (pl B a2) a := fun a h k => by
      rcases nn_pl.mp k with k | k
      · exact fr a (List.mem_append_left _ h) k
      · exact n3 a h a k rfl
    -- the place i is set
    have step : ∃ O1, SR K (pl B a2) (σ.set i (some v)) H (ρ.set i (some (n, d))) O1 ∧ Chg S H0 ρ0 O0 H (ρ.set i (some (n, d))) O1 ∧ ∀ a, NN O1 (pl B a2) a → NN O (pl B (a1 ++ a2)) a := by
      by_cases c0 : n = 0
      · subst c0
        have he : isE m = true := by simpa using hp.1
        have rep : Rep K (NN O (pl B a2)) H d v := isE_rep he f1 (vr_weak (nn_le (by rw [← pa]; exact pl_le)) h1)
        have r' : SR K (pl B a2) σ H ρ O := r.le (by rw [← pa]; exact pl_le)
        have r'' : SR K (pl (pl B a2) []) σ H ρ O := by rw [pl_nil]; exact r'
        obtain ⟨O1, q1, q2, q3⟩ := set_any (i := i) (n := 0) (d := d) (v := v) (as := []) r'' ⟨rfl, by rw [pl_nil]; exact rep⟩ List.nodup_nil (fun _ h => nomatch h) c (fun _ s => s) (hs i (by simp)) (fun _ h => nomatch h)
        refine ⟨O1, q1, q2, fun a h => ?_⟩
        have := q3 a h
        rw [pl_nil] at this
        exact nn_le (by rw [← pa]; exact pl_le) a this
      · have hf : isF n m = true := by simpa [c0] using hp.1
        have ow := isF_own rfl hf c0 h1
        rw [← pa] at r ow
        obtain ⟨O1, q1, q2, q3⟩ := set_any (i := i) (S' := S) r ow n1 f1 c (fun _ s => s) (hs i (by simp)) (fun a h => f0 a (List.mem_append_left _ h))
        exact ⟨O1, q1, q2, by rw [← pa]; exact q3⟩
    obtain ⟨O1, q1, q2, q3⟩ := step
    exact par_ok (ts := ts) hp.2 q1 (ar_weak q3 h2) n2 (fun a h k => by
      have := q3 a (nn_le pl_le a k)
      rcases nn_pl.mp this with k2 | k2
      · exact fr a (List.mem_append_right _ h) k2
      · rcases List.mem_append.mp k2 with k3 | k3
        · exact n3 a k3 a h rfl
        · rcases k with ⟨j, k⟩ | k
          · exact q1.nb j a k (.inr h)
          · exact fr a (List.mem_append_right _ h) (.inr k)) q2 (fun a h => f0 a (List.mem_append_right _ h)) (fun j hj => hs j (by simp only [List.map_cons, List.mem_cons]; exact .inr hj)) e
theorem vr_laid {k : Kd} (hp : H p = none) (h : VR K N σ H k d v as) : VR K N σ (upd H p o) k d v as := by
  have st := stay_laid (K := K) (N := N) (o := o) hp
  have kp : ∀ a w, H a = some w → upd H p o a = some w := fun a w e => by rw [upd_ne (ne_of_none e hp)]; exact e
  cases k with
  | e n => exact own_stay st (fun a _ w e => kp a w e) h
  | f => exact ⟨own_stay st (fun a _ w e => kp a w e) h.1, h.2⟩
  | b n => exact ⟨h.1, repB_keep st kp h.2⟩
  | r i => exact h
theorem ar_laid (hp : H p = none) : ∀ {ms : List ME} {ds : List PyData} {vs : List V} {as : List Addr}, AR K N σ H ms ds vs as → AR K N σ (upd H p o) ms ds vs as
  | [], [], [], _, h => h
  | _ :: _, _ :: _, _ :: _, _, ⟨a1, a2, e, h1, h2⟩ => ⟨a1, a2, e, vr_laid hp h1, ar_laid hp h2⟩
  | [], [], _ :: _, _, h => h.elim
  | [], _ :: _, _, _, h => h.elim
  | _ :: _, [], _, _, h => h.elim
  | _ :: _, _ :: _, [], _, h => h.elim
/-- a, b, .. = x, y, ..: the heap may hold the pair -/
def tParN (ta : TA) (is : List Nat) (n : Nat) : TS := fun D σ H => ta σ H fun vs H1 => vs.length = n ∧ vs.length ≤ sizeLine ∧ ∀ H2, (H2 = H1 ∨ ∃ p, H1 p = none ∧ H2 = upd H1 p (.tup vs)) → D.nx (setAll σ is vs) H2
theorem r_par {ts : List (Nat × Nat)} {es : ME} (hp : parOk ts es = true) (hn : (listM es).length ≤ LIM) (h : tS K G fu rl (.par ts es) D σ H) : tParN (tAr K G es) (ts.map (·.2)) (listM es).length D σ H := by
  obtain ⟨B, ρ, O, sr, h⟩ := h
  simp only [exS, Out.sat_bind] at h
  refine ⟨B, ρ, O, sr, Out.sat_mono h fun ⟨l, ρ1⟩ _ h ds vs H1 O1 as e g => ?_⟩
  simp only at e
  subst e
  obtain ⟨ρ2, e2, h⟩ := sat_ok (show (parSet ρ1 ts ds >>= fun ρ2 => Out.ok (Fl.nx, ρ2)).sat _ from h)
  have lv := (ar_len g.ar).2
  refine ⟨lv.symm, by rw [← lv]; exact lim_line hn, fun H2 hH => ?_⟩
  have key : SR K (pl B as) σ H2 ρ1 O1 ∧ AR K (NN O1 (pl B as)) σ H2 (listM es) ds vs as ∧ Chg (Ef es) H ρ O H2 ρ1 O1 := by
    rcases hH with rfl | ⟨p, hp, rfl⟩
    · exact ⟨g.srs, g.ars, g.ch⟩
    · exact ⟨g.srs.laid hp trivial, ar_laid hp g.ars, g.ch.trans (Chg.laid hp)⟩
  obtain ⟨k1, k2, k3⟩ := key
  cases e3 : parSet ρ1 ts ds with
  | bad => rw [e3] at e2; cases e2
  | ok ρ3 =>
    rw [e3] at e2
    cases e2
    obtain ⟨O3, r3, c3⟩ := par_ok (S := fun j => j ∈ effS (.par ts es)) hp k1 k2 g.fr.1 (fun a m => (g.fr.2 a m).1) (k3.mono fun j s => by simp only [effS, List.mem_append]; exact .inl s) (fun a h => (g.fr.2 a h).2.imp (fun ⟨k, s, q⟩ => ⟨k, by simp only [effS, List.mem_append]; exact .inl s, q⟩) id) (fun i hi => by simp only [effS, List.mem_append]; exact .inr hi) e3
    exact h _ H2 O3 ⟨r3, c3, setAll_len, fun j hj => setAll_out (by simpa [stoS] using hj)⟩
end
end Mini

set_option Elab.async false
set_option linter.all false
set_option maxHeartbeats 2000000
/-! Mini: checked statements, blocks and loops. -/
namespace Mini
open PySem L2 PySem.Spec PyProof.Rows

section
variable {K : PySem.W.Frag} {B B' Bc : Addr → Prop} {N N' N1 N2 : Addr → Prop} {σ σ' σ1 σ2 : L2.St} {H H' H0 H1 H2 H3 : Hp} {ρ ρ' ρ0 ρ1 ρ2 ρ3 : Rho} {O O' O0 O1 O2 O3 Oc : Nat → List Addr} {S S' S1 S2 : Nat → Prop} {d d' : D} {v : V} {as bs : List Addr}
variable {G : Defs} {m e a b c : ME} {s s' t u : MS} {Q : VK} {p q : Addr} {ds : List D} {k : Str} {fu rl : Nat} {E : Ends}
theorem endS_from (c1 : Chg S H ρ O H1 ρ1 O1) (hS : ∀ j, S j → j ∈ effS s) (he : ∀ j ∈ effS s', j ∈ effS s) (hs : ∀ j ∈ stoS s', j ∈ stoS s) (hl : σ1.length = σ.length) (ho : ∀ j, j ∉ stoS s → σ1[j]? = σ[j]?) {r : Fl × Rho} (h : endS K rl B s σ H ρ O E r) : endS K rl B s' σ1 H1 ρ1 O1 E r := by
  have got : ∀ {σ' H' ρ' O'}, GotS K B s' σ1 H1 ρ1 O1 σ' H' ρ' O' → GotS K B s σ H ρ O σ' H' ρ' O' := fun g =>
    ⟨g.sr, (c1.mono hS).trans (g.ch.mono he), g.len.trans hl, fun j hj => (g.out j fun q => hj (hs j q)).trans (ho j hj)⟩
  obtain ⟨o, ρ'⟩ := r
  cases o with
  | nx => exact fun σ' H' O' g => h σ' H' O' (got g)
  | bk => exact fun σ' H' O' g => h σ' H' O' (got g)
  | ct => exact fun σ' H' O' g => h σ' H' O' (got g)
  | rt d => exact fun v σ' H' O' as g ow fr => h v σ' H' O' as (got g) ow (Fr.back c1 fr hS he)
theorem endS_sub (he : ∀ j ∈ effS s', j ∈ effS s) (hs : ∀ j ∈ stoS s', j ∈ stoS s) {r : Fl × Rho} (h : endS K rl B s σ H ρ O E r) : endS K rl B s' σ H ρ O E r :=
  endS_from (S := fun _ => False) Chg.refl (fun _ h => h.elim) he hs rfl (fun _ _ => rfl) h
theorem GotS.refl (r : SR K B σ H ρ O) : GotS K B s σ H ρ O σ H ρ O := ⟨r, Chg.refl, rfl, fun _ _ => rfl⟩
theorem GotS.then (g : GotS K B s σ H ρ O σ1 H1 ρ1 O1) (g2 : GotS K B s' σ1 H1 ρ1 O1 σ2 H2 ρ2 O2) (he : ∀ j ∈ effS s', j ∈ effS s) (hs : ∀ j ∈ stoS s', j ∈ stoS s) : GotS K B s σ H ρ O σ2 H2 ρ2 O2 :=
  ⟨g2.sr, g.ch.trans (g2.ch.mono he), g2.len.trans g.len, fun j hj => (g2.out j fun q => hj (hs j q)).trans (g.out j hj)⟩

theorem r_aug {i : Nat} {o : Op2} {f : Int → Int → Int} (hf : ∀ x y z, evAug o x y = .ok z → ∃ i j, x = .int i ∧ y = .int j ∧ z = .int (f i j)) (he : isE m = true) (h : tS K G fu rl (.aug i o m) E σ H) : tAug i (tE K G m) (ipI f) E σ H := by
  obtain ⟨B, ρ, O, sr, h⟩ := h
  simp only [exS, Out.sat_bind] at h
  obtain ⟨x, g0, h⟩ := ownD_sat h
  obtain ⟨w, hw, ow⟩ := sr.sl i 0 x g0
  refine ⟨w, hw, B, ρ, O, sr, Out.sat_mono h fun ⟨y, ρ1⟩ _ h v H1 O1 as g => ?_⟩
  obtain ⟨z, ez, h⟩ := sat_ok h
  obtain ⟨i1, j1, rfl, rfl, rfl⟩ := hf _ _ _ ez
  have r := isE_rep he (fun a m => (g.fr.2 a m).1) g.vr
  have rw' := ow.2
  cases r
  cases rw'
  refine ⟨i1, j1, rfl, rfl, ?_⟩
  obtain ⟨O2, g2⟩ := set_one (i := i) (d := .int (f i1 j1)) (v := .int (f i1 j1)) g.sr rfl
  exact h _ H1 O2 ⟨g2.sr, (g.ch.mono fun j s => by simp [effS, s]).trans (g2.ch.mono fun j s => by simp only [effS, List.mem_append]; exact .inr s), g2.len, fun j hj => g2.out j (by simpa [stoS] using hj)⟩
theorem r_exp (h : tS K G fu rl (.exp m) E σ H) : tDrop (tE K G m) E σ H := by
  obtain ⟨B, ρ, O, sr, h⟩ := h
  simp only [exS, Out.sat_bind] at h
  refine ⟨B, ρ, O, sr, Out.sat_mono h fun ⟨x, ρ1⟩ _ h v H1 O1 as g => ?_⟩
  exact h σ H1 O1 ⟨g.sr, g.ch, rfl, fun _ _ => rfl⟩
theorem r_seq (h : tS K G fu rl (.seq s t) E σ H) : tSeq (tS K G fu rl s) (tS K G fu rl t) E σ H := by
  obtain ⟨B, ρ, O, sr, h⟩ := h
  simp only [exS, Out.sat_bind] at h
  refine ⟨B, ρ, O, sr, Out.sat_mono h fun ⟨o, ρ1⟩ _ h => ?_⟩
  have e1 : ∀ j ∈ effS s, j ∈ effS (.seq s t) := fun j hj => List.mem_append_left _ hj
  have e2 : ∀ j ∈ effS t, j ∈ effS (.seq s t) := fun j hj => List.mem_append_right _ hj
  have s1 : ∀ j ∈ stoS s, j ∈ stoS (.seq s t) := fun j hj => List.mem_append_left _ hj
  have s2 : ∀ j ∈ stoS t, j ∈ stoS (.seq s t) := fun j hj => List.mem_append_right _ hj
  cases o with
  | nx =>
    intro σ1 H1 O1 g
    exact ⟨B, ρ1, O1, g.sr, Out.sat_mono h fun r _ h => endS_from g.ch e1 e2 s2 g.len (fun j hj => g.out j fun q => hj (s1 j q)) h⟩
  | bk => exact endS_sub (rl := rl) (s := .seq s t) (s' := s) (E := E) (r := (.bk, ρ1)) e1 s1 h
  | ct => exact endS_sub (rl := rl) (s := .seq s t) (s' := s) (E := E) (r := (.ct, ρ1)) e1 s1 h
  | rt d => exact endS_sub (rl := rl) (s := .seq s t) (s' := s) (E := E) (r := (.rt d, ρ1)) e1 s1 h
theorem r_ifs (h : tS K G fu rl (.ifs c s t) E σ H) : tIfS (tTs K G c) (tS K G fu rl s) (tS K G fu rl t) E σ H := by
  obtain ⟨B, ρ, O, sr, h⟩ := h
  simp only [exS, Out.sat_bind] at h
  refine ⟨B, ρ, O, sr, Out.sat_mono h fun ⟨x, ρ1⟩ _ h => Out.sat_mono h fun k _ h H1 O1 r1 c1 => ?_⟩
  have e0 : ∀ j, Ef c j → j ∈ effS (.ifs c s t) := fun j hj => List.mem_append_left _ (List.mem_append_left _ hj)
  cases k with
  | true => exact ⟨B, ρ1, O1, r1, Out.sat_mono h fun r _ h => endS_from c1 e0 (fun j hj => List.mem_append_left _ (List.mem_append_right _ hj)) (fun j hj => List.mem_append_left _ hj) rfl (fun _ _ => rfl) h⟩
  | false => exact ⟨B, ρ1, O1, r1, Out.sat_mono h fun r _ h => endS_from c1 e0 (fun j hj => List.mem_append_right _ hj) (fun j hj => List.mem_append_right _ hj) rfl (fun _ _ => rfl) h⟩
theorem r_whl (h : tS K G fu rl (.whl c s) E σ H) : tWhile (tTs K G c) (tS K G fu rl s) E σ H := by
  obtain ⟨B, ρ, O, sr, h⟩ := h
  have h : (whlN (ev G c) (exS G fu s) fu ρ).sat (endS K rl B (.whl c s) σ H ρ O E) := h
  refine ⟨fun n σ' H' => ∃ ρ' O', GotS K B (.whl c s) σ H ρ O σ' H' ρ' O' ∧ (whlN (ev G c) (exS G fu s) n ρ').sat (endS K rl B (.whl c s) σ H ρ O E), ⟨fu, ρ, O, .refl sr, h⟩, ?_⟩
  rintro n σ1 H1 ⟨ρ1, O1, g, h⟩
  have e0 : ∀ j, Ef c j → j ∈ effS (.whl c s) := fun j hj => List.mem_append_left _ hj
  have e1 : ∀ j ∈ effS s, j ∈ effS (.whl c s) := fun j hj => List.mem_append_right _ hj
  have s1 : ∀ j ∈ stoS s, j ∈ stoS (.whl c s) := fun j hj => hj
  cases n with
  | zero => exact h.elim
  | succ n =>
    simp only [whlN, Out.sat_bind] at h
    refine ⟨B, ρ1, O1, g.sr, Out.sat_mono h fun ⟨x, ρ2⟩ _ h => Out.sat_mono h fun k _ h H2 O2 r2 c2 => ?_⟩
    have g2 : GotS K B (.whl c s) σ H ρ O σ1 H2 ρ2 O2 := ⟨r2, g.ch.trans (c2.mono e0), g.len, g.out⟩
    cases k with
    | false => exact h σ1 H2 O2 g2
    | true =>
      refine ⟨_, fun σ' H' q => ⟨n, Nat.lt_succ_self n, q⟩, B, ρ2, O2, r2, ?_⟩
      simp only [if_pos, Out.sat_bind] at h
      refine Out.sat_mono h fun ⟨o, ρ3⟩ _ h => ?_
      cases o with
      | nx => exact fun σ3 H3 O3 g3 => ⟨ρ3, O3, g2.then g3 e1 s1, h⟩
      | ct => exact fun σ3 H3 O3 g3 => ⟨ρ3, O3, g2.then g3 e1 s1, h⟩
      | bk => exact fun σ3 H3 O3 g3 => h σ3 H3 O3 (g2.then g3 e1 s1)
      | rt d => exact fun v σ3 H3 O3 as g3 ow fr => h v σ3 H3 O3 as (g2.then g3 e1 s1) ow (Fr.back g2.ch fr (fun _ h => h) e1)
theorem WD.step {J : It} {T : List Addr} {Gd : (Addr → Prop) → Hp → Prop} {i : Nat} {x : V} (w : WD K J ds T Gd) (r : SR K B σ H ρ O) (gd : Gd (NN O B) H) (hi : i < ds.length) (y : J.yld i H x H') :
    ∃ d, ds[i]? = some d ∧ SR K B σ H' ρ O ∧ Chg (fun _ => False) H ρ O H' ρ O ∧ Rep K (NN O B) H' d x := by
  obtain ⟨d, e, ⟨rfl, q⟩ | ⟨p, xs, l, rfl, hq, rfl, rfl, t⟩⟩ := w.yields i _ H x H' hi gd y
  · exact ⟨d, e, r, Chg.refl, q⟩
  · exact ⟨_, e, r.laid hq trivial, Chg.laid hq, p, xs, rfl, SqT.of upd_same, reps_all.mpr (all2_stay (stay_laid hq) t)⟩
/-- what a walk looks at stands behind a run that touches none of its places -/
theorem WD.keep {J : It} {T : List Addr} {Gd : (Addr → Prop) → Hp → Prop} {bl : List Nat} (w : WD K J ds T Gd) (r : SR K B σ H ρ O) (gd : Gd (NN O B) H) (to : ∀ a ∈ T, ∃ i ∈ bl, a ∈ O i) (c : Chg S H ρ O H' ρ' O') (r' : SR K B σ' H' ρ' O') (hb : ∀ j ∈ bl, ¬ S j) :
    Gd (NN O' B) H' ∧ ∀ a ∈ T, ∃ i ∈ bl, a ∈ O' i := by
  refine ⟨w.stay _ _ _ _ (r.stay c r') (fun a ha o e => ?_) gd, fun a ha => ?_⟩
  · obtain ⟨i, hi, h⟩ := to a ha
    refine c.pres a o e fun j hj q => ?_
    have := r.dj i j a h q
    subst this
    exact hb i hi hj
  · obtain ⟨i, hi, h⟩ := to a ha
    refine ⟨i, hi, ?_⟩
    rw [(c.same i (hb i hi)).2]
    exact h
theorem r_lop {t : Tgt} {it : ME} (ht : (okT t).1 = true) (hb : ∀ i ∈ bsl it, i ∉ plcT t ++ effS s) (h : tS K G fu rl (.lop t it s) E σ H) : tFor (tIt K G it) (gTT K t).1 (tS K G fu rl s) E σ H := by
  obtain ⟨B, ρ, O, sr, h⟩ := h
  simp only [exS, Out.sat_bind] at h
  refine ⟨B, ρ, O, sr, Out.sat_mono h fun ⟨l, ρ1⟩ _ h => ?_⟩
  cases el : iterOf l with
  | none => simp only [el] at h; exact h.elim
  | some ds =>
    simp only [el] at h
    refine ⟨ds, rfl, fun J H1 O1 T Gd r1 c1 to w gd => ?_⟩
    have e0 : ∀ j, Ef it j → j ∈ effS (.lop t it s) := fun j hj => List.mem_append_left _ (List.mem_append_left _ hj)
    have e1 : ∀ j ∈ plcT t, j ∈ effS (.lop t it s) := fun j hj => List.mem_append_left _ (List.mem_append_right _ hj)
    have e2 : ∀ j ∈ effS s, j ∈ effS (.lop t it s) := fun j hj => List.mem_append_right _ hj
    have s1 : ∀ j ∈ plcT t, j ∈ stoS (.lop t it s) := fun j hj => List.mem_append_left _ hj
    have s2 : ∀ j ∈ stoS s, j ∈ stoS (.lop t it s) := fun j hj => List.mem_append_right _ hj
    let f : PyData → Rho → Out (Fl × Rho) := fun d ρ => asgT t d ρ >>= fun ρa => exS G fu s ρa
    have h : (loopL f ds ρ1).sat (endS K rl B (.lop t it s) σ H ρ O E) := h
    refine ⟨fun i n σ' H' => n = ds.length - i ∧ i ≤ ds.length ∧ ∃ ρ' O', GotS K B (.lop t it s) σ H ρ O σ' H' ρ' O' ∧ Gd (NN O' B) H' ∧ (∀ a ∈ T, ∃ i ∈ bsl it, a ∈ O' i) ∧ (loopL f (ds.drop i) ρ').sat (endS K rl B (.lop t it s) σ H ρ O E),
      ⟨ds.length, by simp, Nat.zero_le _, ρ1, O1, ⟨r1, c1.mono e0, rfl, fun _ _ => rfl⟩, gd, to, h⟩, ?_⟩
    rintro i n σ2 H2 ⟨rfl, hi, ρ2, O2, g, gd2, to2, h⟩
    by_cases hlt : i < ds.length
    · refine .inr ⟨w.goes i _ _ hlt gd2, _, fun σ' H' q => ⟨ds.length - (i + 1), by omega, rfl, hlt, q⟩, fun x H3 y => ?_⟩
      obtain ⟨d, ed, r3, c3, rx⟩ := w.step g.sr gd2 hlt y
      obtain ⟨gd3, to3⟩ := w.keep g.sr gd2 to2 c3 r3 (fun _ _ h => h)
      have edr : ds.drop i = d :: ds.drop (i + 1) := by
        rw [List.drop_eq_getElem_cons hlt]
        rw [List.getElem?_eq_getElem hlt] at ed
        cases ed
        rfl
      rw [edr] at h
      simp only [loopL, Out.sat_bind] at h
      obtain ⟨⟨o, ρ4⟩, e4, h⟩ := sat_ok h
      cases ea : asgT t d ρ2 with
      | bad =>
        have z : f d ρ2 = .bad := by show (asgT t d ρ2 >>= _) = _; rw [ea]; rfl
        rw [z] at e4
        cases e4
      | ok ρa =>
        have z : f d ρ2 = exS G fu s ρa := by show (asgT t d ρ2 >>= _) = _; rw [ea]; rfl
        rw [z] at e4
        refine (asg_ok t).1 ht r3 rx ea fun σ4 O4 ga => ?_
        obtain ⟨gd4, to4⟩ := w.keep r3 gd3 to3 ga.ch ga.sr (fun j hj q => hb j hj (List.mem_append_left _ q))
        have g4 : GotS K B (.lop t it s) σ H ρ O σ4 H3 ρa O4 := ⟨ga.sr, g.ch.trans ((c3.mono fun _ h => h.elim).trans (ga.ch.mono e1)), ga.len.trans g.len, fun j hj => (ga.out j fun q => hj (s1 j q)).trans (g.out j hj)⟩
        refine ⟨B, ρa, O4, ga.sr, ?_⟩
        rw [e4]
        have nxt : ∀ σ5 H5 O5, GotS K B s σ4 H3 ρa O4 σ5 H5 ρ4 O5 → (loopL f (ds.drop (i + 1)) ρ4).sat (endS K rl B (.lop t it s) σ H ρ O E) →
            ∃ ρ' O', GotS K B (.lop t it s) σ H ρ O σ5 H5 ρ' O' ∧ Gd (NN O' B) H5 ∧ (∀ a ∈ T, ∃ i ∈ bsl it, a ∈ O' i) ∧ (loopL f (ds.drop (i + 1)) ρ').sat (endS K rl B (.lop t it s) σ H ρ O E) := fun σ5 H5 O5 g5 h => by
          obtain ⟨gd5, to5⟩ := w.keep ga.sr gd4 to4 g5.ch g5.sr (fun j hj q => hb j hj (List.mem_append_right _ q))
          exact ⟨ρ4, O5, g4.then g5 e2 s2, gd5, to5, h⟩
        cases o with
        | nx => exact fun σ5 H5 O5 g5 => nxt σ5 H5 O5 g5 h
        | ct => exact fun σ5 H5 O5 g5 => nxt σ5 H5 O5 g5 h
        | bk => exact fun σ5 H5 O5 g5 => h σ5 H5 O5 (g4.then g5 e2 s2)
        | rt d => exact fun v σ5 H5 O5 as g5 ow fr => h v σ5 H5 O5 as (g4.then g5 e2 s2) ow (Fr.back g4.ch fr (fun _ h => h) e2)
    · have e : i = ds.length := by omega
      subst e
      refine .inl ⟨w.stops _ _ gd2, ?_⟩
      rw [List.drop_length] at h
      exact h σ2 H2 O2 g

/-! ### what is owned is changed -/
theorem r_app {i : Nat} (he : isE m = true) (hi : i ∉ eff m) (h : tS K G fu rl (.app 1 i none m) E σ H) : tDrop (tBM K "list" rAppend (tVar i) (tCons (tE K G m) tNil)) E σ H := by
  obtain ⟨B, ρ, O, sr, h⟩ := h
  simp only [exS, Out.sat_bind] at h
  obtain ⟨d0, g0, h⟩ := ownD_sat h
  cases d0 <;> first | exact False.elim h | skip
  rename_i l0
  obtain ⟨w, hw, ow⟩ := sr.sl i 1 _ g0
  obtain ⟨p, xs0, rfl, hp0, ep0, _⟩ := own1_list ow
  refine ⟨_, hw, .inl ⟨rfl, xs0, SqL.of hp0⟩, B, ρ, O, sr, Out.sat_mono h fun ⟨x, ρ1⟩ _ h v H1 O1 as g => ?_⟩
  have r := isE_rep he (fun a m => (g.fr.2 a m).1) g.vr
  obtain ⟨q1, q2⟩ := g.ch.same i hi
  obtain ⟨d1, g1, h⟩ := ownD_sat h
  rw [q1, g0] at g1
  cases g1
  have g1 : getS ρ1 i = some (1, .list l0) := by rw [q1]; exact g0
  obtain ⟨w', hw', ow'⟩ := g.sr.sl i 1 _ g1
  rw [hw] at hw'
  cases hw'
  obtain ⟨p', xs, e, hp, ep, t⟩ := own1_list ow'
  cases e
  by_cases hz : l0.length < LIM
  · simp only [appPath, if_pos hz] at h
    have ma : p ∈ O1 i := by rw [ep]; exact List.mem_cons_self
    have st := stay_wr (B := B) (K := K) (o := .lst (xs ++ [v])) ma hp trivial
    obtain ⟨r2, c2⟩ := g.sr.wr (o := .lst (xs ++ [v])) g1 ma hp trivial hw (by rw [ep]; exact own1_mk upd_same ((all2_stay st t).append (.one (rep_stay st _ _ r))))
    refine ⟨p, xs, v, rfl, rfl, hp, lim_lt (by rw [← t.length]; exact hz), ?_⟩
    exact h σ _ O1 ⟨r2, (g.ch.mono fun j s => by simp [effS, s]).trans (c2.mono fun j s => by simp only [effS, List.mem_append]; exact .inr s), rfl, fun _ _ => rfl⟩
  · simp only [appPath, if_neg hz] at h
    exact h.elim
theorem r_appk {i : Nat} (he : isE m = true) (hi : i ∉ eff m) (h : tS K G fu rl (.app 2 i (some k) m) E σ H) : tDrop (tBM K "list" rAppend (tDGet (tVar i) (tC (.str k))) (tCons (tE K G m) tNil)) E σ H := by
  obtain ⟨B, ρ, O, sr, h⟩ := h
  simp only [exS, Out.sat_bind] at h
  obtain ⟨d0, g0, h⟩ := ownD_sat h
  cases d0 <;> first | exact False.elim h | skip
  rename_i kvs
  cases eg : getD k kvs with
  | none => simp only [canApp, eg] at h; exact h.elim
  | some y0 =>
    cases y0 <;> first | (simp only [canApp, eg] at h; exact h.elim) | skip
    rename_i l0
    simp only [canApp, eg] at h
    obtain ⟨w, hw, ow⟩ := sr.sl i 2 _ g0
    obtain ⟨p, ks, b, xs0, rfl, _, _, _, hp, hv, hb, _, _⟩ := own2_at ow (sr.nd i) eg
    refine ⟨_, hw, p, .ref b, rfl, hv ▸ DGet.k (k := .inr k) hp, .inl ⟨rfl, xs0, SqL.of hb⟩, B, ρ, O, sr, Out.sat_mono h fun ⟨x, ρ1⟩ _ h v H1 O1 as g => ?_⟩
    have r := isE_rep he (fun a m => (g.fr.2 a m).1) g.vr
    obtain ⟨q1, q2⟩ := g.ch.same i hi
    obtain ⟨d1, g1, h⟩ := ownD_sat h
    rw [q1, g0] at g1
    cases g1
    have g1 : getS ρ1 i = some (2, .dict kvs) := by rw [q1]; exact g0
    obtain ⟨w', hw', ow'⟩ := g.sr.sl i 2 _ g1
    rw [hw] at hw'
    cases hw'
    obtain ⟨p', ks', b', xs, e, mp, mb, nbp, hp', hv', hb', t, mk⟩ := own2_at ow' (g.sr.nd i) eg
    cases e
    -- the dict and its list stand where they stood
    have sp : ∀ a ∈ O i, ∀ o, H a = some o → H1 a = some o := fun a ha o e => g.ch.pres a o e fun j hj q => by
      have := sr.dj i j a ha q
      subst this
      exact hi hj
    have mp0 : p ∈ O i := by rw [← q2]; exact mp
    have ek : ks' = ks := by
      have := sp p mp0 _ hp
      rw [hp'] at this
      cases this
      rfl
    subst ek
    rw [hv] at hv'
    cases hv'
    by_cases hz : l0.length < LIM
    · simp only [appPath, evKey, eg, if_pos hz] at h
      have st := stay_wr (B := B) (K := K) (o := .lst (xs ++ [v])) mb hb' trivial
      obtain ⟨r2, c2⟩ := g.sr.wr (o := .lst (xs ++ [v])) g1 mb hb' trivial hw (mk _ _ st ((all2_stay st t).append (.one (rep_stay st _ _ r))))
      refine ⟨b, xs, v, rfl, rfl, hb', lim_lt (by rw [← t.length]; exact hz), ?_⟩
      exact h σ _ O1 ⟨r2, (g.ch.mono fun j s => by simp [effS, s]).trans (c2.mono fun j s => by simp only [effS, List.mem_append]; exact .inr s), rfl, fun _ _ => rfl⟩
    · simp only [appPath, evKey, eg, if_neg hz] at h
      exact h.elim
theorem r_set {i : Nat} (he : isE e = true) (hx : isE m = true) (hi : i ∉ eff m) (h : tS K G fu rl (.set 1 i m e) E σ H) : tAsg (tE K G e) (gSub (tVar i) (tE K G m) rSetL) E σ H := by
  obtain ⟨B, ρ, O, sr, h⟩ := h
  simp only [exS, Out.sat_bind] at h
  refine ⟨B, ρ, O, sr, Out.sat_mono h fun ⟨x, ρ1⟩ _ h v H1 O1 as g => ?_⟩
  obtain ⟨d0, g0, h⟩ := ownD_sat h
  obtain ⟨w, hw, _⟩ := g.sr.sl i 1 _ g0
  refine ⟨w, hw, B, ρ1, O1, g.sr, Out.sat_mono h fun ⟨y, ρ2⟩ _ h u H2 O2 bs g2 => ?_⟩
  have rv := rep_stay (g.sr.stay g2.ch g2.sr) _ _ (isE_rep he (fun a m => (g.fr.2 a m).1) g.vr)
  have ru := isE_rep hx (fun a m => (g2.fr.2 a m).1) g2.vr
  obtain ⟨d1, g1, h⟩ := ownD_sat h
  obtain ⟨w', hw', ow⟩ := g2.sr.sl i 1 _ g1
  rw [hw] at hw'
  cases hw'
  cases d1 <;> first | (cases y <;> exact False.elim h) | skip
  rename_i l
  cases y <;> first | exact False.elim h | skip
  rename_i n _ _
  cases ru
  obtain ⟨p, xs, rfl, hp, ep, t⟩ := own1_list ow
  cases ej : ixN l.length n with
  | none => simp only [setIx, ej] at h; exact h.elim
  | some j =>
    simp only [setIx, ej] at h
    have ma : p ∈ O2 i := by rw [ep]; exact List.mem_cons_self
    have st := stay_wr (B := B) (K := K) (o := .lst (xs.set j v)) ma hp trivial
    obtain ⟨r2, c2⟩ := g2.sr.wr (o := .lst (xs.set j v)) g1 ma hp trivial hw (by rw [ep]; exact own1_mk upd_same (All2.set (rep_stay st _ _ rv) j (all2_stay st t)))
    refine ⟨p, xs, n, j, rfl, rfl, hp, by rw [← t.length]; exact ej, ?_⟩
    exact h σ _ O2 ⟨r2, ((g.ch.mono fun j s => by simp [effS, s]).trans (g2.ch.mono fun j s => by simp [effS, s])).trans (c2.mono fun j s => by simp only [effS, List.mem_append]; exact .inr s), rfl, fun _ _ => rfl⟩
theorem kv3_len {R : PyData → V → List Addr → Prop} : ∀ {kvs : List (PyData × PyData)} {ks : List (Key × V)} {as : List Addr}, Kv3 R kvs ks as → ks.length = kvs.length
  | [], _, _, h => by rw [h.1]; rfl
  | _ :: _, _, _, ⟨k, x, xs, a1, a2, e, _, _, _, t⟩ => by subst e; simp [kv3_len t]
theorem r_setK {i : Nat} (he : isE m = true) (h : tS K G fu rl (.setK 2 i k m) E σ H) : sDPut (tVar i) (tC (.str k)) (tE K G m) E σ H := by
  obtain ⟨B, ρ, O, sr, h⟩ := h
  simp only [exS, Out.sat_bind] at h
  refine ⟨B, ρ, O, sr, Out.sat_mono h fun ⟨x, ρ1⟩ _ h v H1 O1 as g => ?_⟩
  have r := isE_rep he (fun a m => (g.fr.2 a m).1) g.vr
  obtain ⟨d0, g0, h⟩ := ownD_sat h
  obtain ⟨w, hw, ow⟩ := g.sr.sl i 2 _ g0
  have h : ((if isFlat x = true then Out.ok x else Out.bad).sat fun y => (setKey d0 k y).sat fun d1 => endS K rl B (.setK 2 i k m) σ H ρ O E (.nx, ρ1.set i (some (2, d1)))) := h
  by_cases f : isFlat x = true
  · rw [if_pos f] at h
    cases d0 <;> first | exact False.elim h | skip
    rename_i kvs _
    cases eg : getD k kvs with
    | none =>
      have z : setKey (.dict kvs) k x = .bad := by simp [setKey, evKey, eg]
      have h : (setKey (.dict kvs) k x).sat _ := h
      rw [z] at h
      exact h.elim
    | some y =>
      by_cases f2 : isFlat y = true ∧ kvs.length < LIM
      · have z : setKey (.dict kvs) k x = .ok (.dict (putD kvs k x)) := by simp [setKey, evKey, eg, f2]
        have h : (setKey (.dict kvs) k x).sat _ := h
        rw [z] at h
        obtain ⟨p, ks, bs, rfl, ⟨hp, ndk⟩, eO, t⟩ := ow
        obtain ⟨y', a1, a2, a3, h1, e3, h3, h4⟩ := kv3_split t ndk eg
        have e2 : a2 = [] := ((own_flat f2.1).mp h3).1
        subst e2
        have mp : p ∈ O1 i := by rw [eO]; exact List.mem_cons_self
        have nd := g.sr.nd i
        rw [eO] at nd
        have st := stay_wr (B := B) (K := K) (o := .dK (putK ks (.inr k) v)) mp hp trivial
        have q := h4 (Own K (NN O1 B) (upd H1 p (.dK (putK ks (.inr k) v))) 1) (fun d x cs hc o => own_stay st (fun a ha w e => by
          have c : a ≠ p := fun e => by
            subst e
            have m : a ∈ bs := by
              rw [e3]
              have := hc a ha
              simpa using this
            exact (List.nodup_cons.mp nd).1 m
          rw [upd_ne c]; exact e) o) x v [] ((own_flat f).mpr ⟨rfl, rep_stay st _ _ r⟩)
        have ow2 : Own K (NN O1 B) (upd H1 p (.dK (putK ks (.inr k) v))) 2 (.dict (putD kvs k x)) (.ref p) (O1 i) := by
          refine ⟨p, putK ks (.inr k) v, bs, rfl, ⟨upd_same, by rw [putK_in h1, keys_put]; exact ndk⟩, eO, ?_⟩
          rw [← putK_in (y := v) h1] at q
          rw [e3]
          exact q
        obtain ⟨r2, c2⟩ := g.sr.wr (o := .dK (putK ks (.inr k) v)) g0 mp hp trivial hw ow2
        refine ⟨_, hw, p, _, rfl, DPut.k (k := .inr k) hp (by rw [kv3_len t]; exact lim_lt f2.2), ?_⟩
        exact h σ _ O1 ⟨r2, (g.ch.mono fun j s => by simp [effS, s]).trans (c2.mono fun j s => by simp only [effS, List.mem_append]; exact .inr s), rfl, fun _ _ => rfl⟩
      · have z : setKey (.dict kvs) k x = .bad := by simp only [setKey, evKey, eg, if_neg f2]
        have h : (setKey (.dict kvs) k x).sat _ := h
        rw [z] at h
        exact h.elim
  · rw [if_neg f] at h
    exact h.elim
end
end Mini

set_option Elab.async false
set_option linter.all false
set_option maxHeartbeats 2000000
/-! Mini: checked statements do what their Mini statements do. -/
namespace Mini
open PySem L2 PySem.Spec PyProof.Rows

/-! ### how pairs are stored -/
theorem star_fn : (fun (x : Expr) => match x with | .Starred .. => true | _ => false) = star := by
  funext x
  cases x <;> rfl
theorem sw_eq {env : Env} {xs vs : List Expr} {k k2 : Nat} {p p2 : Pos} (hk : env.scope.kind = .function) :
    (swK env.scope xs vs = some true → swappedStores [.Tuple xs k p] (.Tuple vs k2 p2) env = pure (some (swNames env.scope xs))) ∧
    (swK env.scope xs vs = some false → swappedStores [.Tuple xs k p] (.Tuple vs k2 p2) env = pure none) := by
  have hb : env.blockKind = .function := by unfold Env.blockKind; rw [hk]; rfl
  have e1 : swappedStores [.Tuple xs k p] (.Tuple vs k2 p2) env = (if (!(xs.length == 2 || xs.length == 3) || vs.length != xs.length || env.blockKind != .function) = true then pure none
      else if (vs.any star) = true then pure none
      else if ((swNames env.scope xs).length != xs.length || (swNames env.scope xs).eraseDups.length != (swNames env.scope xs).length) = true then pure none
      else if (vs.all (foldedForSure 8)) = true then pure none
      else if (vs.all (constantsAlone 8)) = true then unsupported "assign.tuple-of-constant-expressions:order-of-the-stores"
      else pure (some (swNames env.scope xs))) := by
    rfl
  have f : (ScopeKind.function != ScopeKind.function) = false := rfl
  rw [e1, hb, f, Bool.or_false]
  unfold swK
  by_cases c1 : (!(xs.length == 2 || xs.length == 3) || vs.length != xs.length) = true
  · rw [if_pos c1, if_pos c1]
    exact ⟨fun h => (by cases h), fun _ => rfl⟩
  rw [if_neg c1, if_neg c1]
  by_cases c2 : (vs.any star) = true
  · rw [if_pos c2, if_pos c2]
    exact ⟨fun h => (by cases h), fun h => by cases h⟩
  rw [if_neg c2, if_neg c2]
  by_cases c3 : ((swNames env.scope xs).length != xs.length || (swNames env.scope xs).eraseDups.length != (swNames env.scope xs).length) = true
  · rw [if_pos c3, if_pos c3]
    exact ⟨fun h => (by cases h), fun _ => rfl⟩
  rw [if_neg c3, if_neg c3]
  by_cases c4 : (vs.all (foldedForSure 8)) = true
  · rw [if_pos c4, if_pos c4]
    exact ⟨fun h => (by cases h), fun _ => rfl⟩
  rw [if_neg c4, if_neg c4]
  by_cases c5 : (vs.all (constantsAlone 8)) = true
  · rw [if_pos c5]
    exact ⟨fun h => (by cases h), fun h => by cases h⟩
  rw [if_neg c5, if_neg c5]
  exact ⟨fun _ => rfl, fun h => by cases h⟩
/-- from the right: all names are the frame's own -/
theorem swK_true {sc : Scope} {xs vs : List Expr} (h : swK sc xs vs = some true) : (xs.length = 2 ∨ xs.length = 3) ∧ vs.length = xs.length ∧ (swNames sc xs).length = xs.length := by
  unfold swK at h
  by_cases c1 : (!(xs.length == 2 || xs.length == 3) || vs.length != xs.length) = true
  · rw [if_pos c1] at h; cases h
  rw [if_neg c1] at h
  by_cases c2 : (vs.any star) = true
  · rw [if_pos c2] at h; cases h
  rw [if_neg c2] at h
  by_cases c3 : ((swNames sc xs).length != xs.length || (swNames sc xs).eraseDups.length != (swNames sc xs).length) = true
  · rw [if_pos c3] at h; cases h
  simp only [Bool.or_eq_true, Bool.not_eq_true', bne_iff_ne, not_or, Bool.not_eq_true, Bool.not_eq_false', beq_iff_eq, Decidable.not_not, Bool.or_eq_false_iff, bne_eq_false_iff_eq] at c1 c3
  exact ⟨by
    have q := c1.1
    by_cases a : xs.length = 2
    · exact .inl a
    · by_cases b : xs.length = 3
      · exact .inr b
      · simp [a, b] at q, c1.2, c3.1⟩
theorem fm_all {α β : Type} {f : α → Option β} : ∀ {l : List α}, (l.filterMap f).length = l.length → ∀ x ∈ l, ∃ y, f x = some y
  | [], _, x, h => nomatch h
  | a :: l, e, x, h => by
    rw [List.filterMap_cons] at e
    cases q : f a with
    | none =>
      rw [q] at e
      have := List.length_filterMap_le f l
      simp at e
      omega
    | some y =>
      rw [q] at e
      rcases List.mem_cons.mp h with rfl | h
      · exact ⟨y, q⟩
      · exact fm_all (by simpa using e) x h
theorem swN_name {sc : Scope} {l : Nat} {x : Str} {px : Pos} {y : Str} (h : swN sc l (.Name x px) = some y) : y = x ∧ sc.names.lookup x = some .local := by
  have h : (if (sc.names.lookup x == some NameKind.local && px.line == l) = true then some x else none) = some y := h
  by_cases c : (sc.names.lookup x == some NameKind.local && px.line == l) = true
  · rw [if_pos c] at h
    rw [Bool.and_eq_true] at c
    cases h
    refine ⟨rfl, ?_⟩
    have := c.1
    cases q : sc.names.lookup x with
    | none => rw [q] at this; cases this
    | some k => rw [q] at this; cases k <;> first | rfl | cases this
  · rw [if_neg c] at h; cases h
theorem ckNms_len {N : List Str} {sc : Scope} : ∀ {is : List Nat} {xs : List Expr}, ckNms N sc is xs = true → is.length = xs.length ∧ ∀ x ∈ xs, star x = false
  | [], [], _ => ⟨rfl, fun _ h => nomatch h⟩
  | [], _ :: _, h => by cases h
  | i :: is, [], h => by cases h
  | i :: is, x :: xs, h => by
    cases x <;> first | (cases h; done) | skip
    rename_i x px
    have h : (decide (N[i]? = some x) && (stB false sc x && ckNms N sc is xs)) = true := h
    simp only [Bool.and_eq_true] at h
    obtain ⟨h1, h2⟩ := ckNms_len h.2.2
    refine ⟨by simp [h1], fun e he => ?_⟩
    rcases List.mem_cons.mp he with rfl | he
    · rfl
    · exact h2 e he

section
variable {C : CkP} {G : Defs} {X : Cx} {m e a b c : ME} {s t u : MS} {x : Expr} {fu rl : Nat}
/-- the names of a pair, in order -/
def gNms : List Nat → TGs
  | [] => gNil
  | i :: is => gCons (gName i) (gNms is)
theorem pgs_nms (ok : SOk C G X) : ∀ {is : List Nat} {xs : List Expr}, ckNms X.N X.env.scope is xs = true → PGs X xs (gNms is)
  | [], [], _ => pgs_nil
  | [], _ :: _, h => by cases h
  | i :: is, [], h => by cases h
  | i :: is, x :: xs, h => by
    cases x <;> first | (cases h; done) | skip
    rename_i x px
    have h : (decide (X.N[i]? = some x) && (stB false X.env.scope x && ckNms X.N X.env.scope is xs)) = true := h
    simp only [Bool.and_eq_true, decide_eq_true_eq] at h
    obtain ⟨h1, h2⟩ := stB_ok (fun _ => ok.fnA) h.2.1
    exact pgs_cons (pg_name ok.nd h.1 h1 h2) (pgs_nms ok h.2.2) rfl
theorem gNms_all : ∀ {is : List Nat} {vs : List V} {σ : L2.St} {H : Hp} {Q : L2.St → Hp → Prop}, vs.length = is.length → Q (setAll σ is vs) H → gNms is vs σ H Q
  | [], [], _, _, _, _, h => ⟨rfl, h⟩
  | [], _ :: _, _, _, _, e, _ => by cases e
  | _ :: _, [], _, _, _, e, _ => by cases e
  | i :: is, v :: vs, _, _, _, e, h => ⟨v, vs, rfl, gNms_all (by simpa using e) h⟩
theorem names2 {sc : Scope} {xs : List Expr} (h : (swNames sc xs).length = xs.length) : ∀ (x : Str) (px : Pos), Expr.Name x px ∈ xs → sc.names.lookup x = some .local := fun x px hx => by
  obtain ⟨y, hy⟩ := fm_all h _ hx
  exact (swN_name hy).2
theorem swNames2 {sc : Scope} {x y : Str} {px py : Pos} (h : (swNames sc [.Name x px, .Name y py]).length = 2) : swNames sc [.Name x px, .Name y py] = [x, y] := by
  obtain ⟨u, hu⟩ := fm_all (show (List.filterMap _ [Expr.Name x px, Expr.Name y py]).length = _ from h) (.Name x px) (by simp)
  obtain ⟨v, hv⟩ := fm_all (show (List.filterMap _ [Expr.Name x px, Expr.Name y py]).length = _ from h) (.Name y py) (by simp)
  have e1 := (swN_name hu).1
  have e2 := (swN_name hv).1
  subst e1 e2
  unfold swNames
  rw [List.filterMap_cons, hu, List.filterMap_cons, hv]
  rfl
theorem swNames3 {sc : Scope} {x y z : Str} {px py pz : Pos} (h : (swNames sc [.Name x px, .Name y py, .Name z pz]).length = 3) : swNames sc [.Name x px, .Name y py, .Name z pz] = [x, y, z] := by
  obtain ⟨u, hu⟩ := fm_all (show (List.filterMap _ [Expr.Name x px, Expr.Name y py, Expr.Name z pz]).length = _ from h) (.Name x px) (by simp)
  obtain ⟨v, hv⟩ := fm_all (show (List.filterMap _ [Expr.Name x px, Expr.Name y py, Expr.Name z pz]).length = _ from h) (.Name y py) (by simp)
  obtain ⟨w, hw⟩ := fm_all (show (List.filterMap _ [Expr.Name x px, Expr.Name y py, Expr.Name z pz]).length = _ from h) (.Name z pz) (by simp)
  have e1 := (swN_name hu).1
  have e2 := (swN_name hv).1
  have e3 := (swN_name hw).1
  subst e1 e2 e3
  unfold swNames
  rw [List.filterMap_cons, hu, List.filterMap_cons, hv, List.filterMap_cons, hw]
  rfl
theorem ckNms_cons {N : List Str} {sc : Scope} {is : List Nat} {x : Expr} {xs : List Expr} (h : ckNms N sc is (x :: xs) = true) : ∃ i is' y py, is = i :: is' ∧ x = .Name y py ∧ N[i]? = some y ∧ ckNms N sc is' xs = true := by
  cases is with
  | nil => cases h
  | cons i is =>
    cases x <;> first | (cases h; done) | skip
    rename_i y py
    have h : (decide (N[i]? = some y) && (stB false sc y && ckNms N sc is xs)) = true := h
    simp only [Bool.and_eq_true, decide_eq_true_eq] at h
    exact ⟨i, is, y, py, rfl, rfl, h.1, h.2.2⟩
theorem ps_parN {is : List Nat} {xs vs : List Expr} {es : ME} {k k2 : Nat} {p p2 pos : Pos} (ok : SOk C G X) (hn : ckNms X.N X.env.scope is xs = true) (nd : is.Nodup) (ha : PA X vs (tAr X.K G es)) (hs : (swK X.env.scope xs vs).isSome = true) :
    PS X (.Assign [.Tuple xs k p] (.Tuple vs k2 p2) pos) (tParN (tAr X.K G es) is xs.length) := by
  obtain ⟨l1, l2⟩ := ckNms_len hn
  cases e : swK X.env.scope xs vs with
  | none => rw [e] at hs; cases hs
  | some q =>
    cases q with
    | false =>
      have hw := (sw_eq (k := k) (k2 := k2) (p := p) (p2 := p2) ok.kind).2 e
      refine PS.by (ps_asg (pe_tup ha) (pg_tup ok.calm (pgs_nms ok hn) (by rw [each_len]) (each_plain l2)) rfl hw rfl) fun E σ H h => ?_
      refine tAr_mono (fun ws H1 ⟨h1, h2, h3⟩ => ⟨h2, fun q hq => ⟨q, ws, rfl, SqT.of upd_same, h1, gNms_all (by rw [h1, l1]) (h3 _ (.inr ⟨q, hq, rfl⟩))⟩⟩) h
    | true =>
      have hw := (sw_eq (k := k) (k2 := k2) (p := p) (p2 := p2) ok.kind).1 e
      obtain ⟨hl, hv, hnm⟩ := swK_true e
      have hloc := names2 hnm
      rcases xs with _ | ⟨x, _ | ⟨y, _ | ⟨z, _ | ⟨w, xs⟩⟩⟩⟩ <;> first | (exfalso; simp at hl; done) | skip
      · obtain ⟨i, is, xn, px, rfl, rfl, hi, hn⟩ := ckNms_cons hn
        obtain ⟨j, is, yn, py, rfl, rfl, hj, hn⟩ := ckNms_cons hn
        cases is <;> first | (cases hn; done) | skip
        rcases vs with _ | ⟨a, _ | ⟨b, _ | ⟨c, vs⟩⟩⟩ <;> first | (exfalso; simp at hv; done) | skip
        rw [swNames2 hnm] at hw
        have hij : i ≠ j := fun e => by simp [e] at nd
        refine PS.by (ps_par ok.calm ok.nd hi hj hij (hloc xn px (by simp)) (hloc yn py (by simp)) ha hw rfl) fun E σ H h => ?_
        refine tAr_mono (fun ws H1 ⟨h1, h2, h3⟩ => ?_) h
        rcases ws with _ | ⟨u, _ | ⟨v, _ | ⟨w, ws⟩⟩⟩ <;> first | (exfalso; simp at h1; done) | skip
        exact ⟨u, v, rfl, h3 H1 (.inl rfl)⟩
      · obtain ⟨i, is, xn, px, rfl, rfl, hi, hn⟩ := ckNms_cons hn
        obtain ⟨j, is, yn, py, rfl, rfl, hj, hn⟩ := ckNms_cons hn
        obtain ⟨l, is, zn, pz, rfl, rfl, hz, hn⟩ := ckNms_cons hn
        cases is <;> first | (cases hn; done) | skip
        rcases vs with _ | ⟨a, _ | ⟨b, _ | ⟨c, _ | ⟨d, vs⟩⟩⟩⟩ <;> first | (exfalso; simp at hv; done) | skip
        rw [swNames3 hnm] at hw
        have hij : i ≠ j := fun e => by simp [e] at nd
        have hil : i ≠ l := fun e => by simp [e] at nd
        have hjl : j ≠ l := fun e => by simp [e] at nd
        refine PS.by (ps_par3 ok.calm ok.nd hi hj hz hij hil hjl (hloc xn px (by simp)) (hloc yn py (by simp)) (hloc zn pz (by simp)) ha hw rfl) fun E σ H h => ?_
        refine tAr_mono (fun ws H1 ⟨h1, h2, h3⟩ => ?_) h
        rcases ws with _ | ⟨u, _ | ⟨v, _ | ⟨w, _ | ⟨w2, ws⟩⟩⟩⟩ <;> first | (exfalso; simp at h1; done) | skip
        exact ⟨u, v, w, rfl, h3 H1 (.inl rfl)⟩

/-! ### name = value -/
theorem tLc_mono {wi : TI} {g : TG} {tt : TT} {te : TE} {vs : List Nat} {σ : L2.St} {H : Hp} {Q Q' : VK} (f : ∀ v H, Q v H → Q' v H) (h : tLc wi g tt te vs σ H Q) (mono : ∀ R R' : It → Hp → Prop, (∀ J H, R J H → R' J H) → wi σ H R → wi σ H R') : tLc wi g tt te vs σ H Q' := by
  refine mono _ _ (fun J H1 h D hD => ?_) h
  obtain ⟨W, w0, st⟩ := h D hD
  exact ⟨W, w0, fun i m H hw => (st i m H hw).imp (fun ⟨a, b⟩ => ⟨a, f _ _ b⟩) id⟩
theorem tIt_mono {K : PySem.W.Frag} {σ : L2.St} {H : Hp} {R R' : It → Hp → Prop} (f : ∀ J H, R J H → R' J H) (h : tIt K G m σ H R) : tIt K G m σ H R' := by
  obtain ⟨B, ρ, O, sr, h⟩ := h
  exact ⟨B, ρ, O, sr, Out.sat_mono h fun r _ ⟨ds, e, h⟩ => ⟨ds, e, fun J H' O' T Gd a b c d g => f _ _ (h J H' O' T Gd a b c d g)⟩⟩
def swLc (sc : Scope) (x : Str) (px : Pos) : Expr → Bool
  | .ListComp _ _ s p => sc.names.lookup x == some NameKind.local && px.line == p.line && !(s.names.any fun q => q.1 == x && (q.2 == .local || q.2 == .cell))
  | _ => false
theorem sw_lc {env : Env} {elt : Expr} {gs : List Comprehension} {scope : Scope} {pos px : Pos} {x : Str} {l : Nat} (hk : env.scope.kind = .function) :
    swapsWith (.ListComp elt gs scope pos) (some (.Name x px)) l env = pure (swLc env.scope x px (.ListComp elt gs scope pos)) := by
  have hb : env.blockKind = .function := by unfold Env.blockKind; rw [hk]; rfl
  have e1 : swapsWith (.ListComp elt gs scope pos) (some (.Name x px)) l env = pure (env.blockKind == .function && env.kindOf x == some .local && px.line == pos.line && !(scope.names.any fun (n, k) => n == x && (k == .local || k == .cell))) := rfl
  rw [e1, hb]
  rfl
theorem ps_name {i : Nat} {y : Str} {py pos : Pos} {v : Expr} (ok : SOk C G X) (hi : X.N[i]? = some y) (hst : stB false X.env.scope y = true) (hc : ck C X.N m X.env.scope (.e v) = true) (hv : (!isCompE v || (isCompM m && isLC v)) = true) :
    PS X (.Assign [.Name y py] v pos) fun E σ H => tE X.K G m σ H fun x H1 => E.nx (σ.set i (some x)) H1 := by
  obtain ⟨h1, h2⟩ := stB_ok (fun _ => ok.fnA) hst
  have pe := (sound C G m).e X ok.toXOk v hc
  by_cases cv : isCompE v = true
  · simp only [cv, Bool.not_true, Bool.false_or, Bool.and_eq_true] at hv
    cases m <;> first | (cases hv.1; done) | skip
    rename_i own t it c e
    obtain ⟨elt, tg, iter, ifs, scope, p, rfl, q1, q2, q3, q4, q5, q6, q7, q9, q8⟩ := comp_inv hc
    have sw := sw_lc (env := X.env) (elt := elt) (gs := [⟨tg, iter, ifs, 0⟩]) (scope := scope) (pos := p) (px := py) (x := y) (l := pos.line) ok.kind
    by_cases b : swLc X.env.scope y py (.ListComp elt [⟨tg, iter, ifs, 0⟩] scope p) = true
    · rw [b] at sw
      have hl : X.env.scope.names.lookup y = some .local := by
        have b : (X.env.scope.names.lookup y == some NameKind.local && py.line == p.line && !(scope.names.any fun q => q.1 == y && (q.2 == .local || q.2 == .cell))) = true := b
        simp only [Bool.and_eq_true] at b
        have b := b.1.1
        cases q : X.env.scope.names.lookup y with
        | none => rw [q] at b; cases b
        | some k => rw [q] at b; cases k <;> first | rfl | cases b
      have bk := blkOk_by q1
      obtain ⟨p1, p2⟩ := (sound C G it).i X ok.toXOk tg iter q2
      refine PS.by (ps_setLc (own := own) (g := (gTT X.K t).1) (tt := tTs X.K G c) (te := tE X.K G e) ok.calm ok.nd hi hl sw p1 bk (fun s H D cl fp => ?_) (fun s H D cl fp => ?_) (fun s H D cl fp => ?_) (fsi p2)) fun E σ H h => ?_
      · exact (pg_tgt (X := X.blk s H scope (compEnvC scope cl D X.env) fp) (blk := true) ok.nd ok.calm (fun h => by cases h) t).1 q3 tg q4
      · rcases q8 with ⟨rfl, rfl⟩ | ⟨z, rfl, q8⟩
        · refine ⟨fun pins s' σ H' Q I hw => pts_nil.run pins s' σ H' Q I ?_⟩
          obtain ⟨B, ρ, O, sr, q⟩ := hw
          exact q H' O sr Chg.refl
        · exact pts_one ((sound C G c).t (X.blk s H scope (compEnvC scope cl D X.env) fp) (blk_ok ok.toXOk) z q8 q6)
      · exact (sound C G e).e (X.blk s H scope (compEnvC scope cl D X.env) fp) (blk_ok ok.toXOk) elt q9
      · have h := r_comp q3 (plc_own ok.nd bk q4) q5 q7 h
        exact tLc_mono (fun x H1 q => q trivial) h fun R R' f => tIt_mono f
    · have b : swLc X.env.scope y py (.ListComp elt [⟨tg, iter, ifs, 0⟩] scope p) = false := by simpa using b
      rw [b] at sw
      exact PS.by (ps_set ok.nd hi h1 pe sw h2) fun E σ H h => h
  · have cv : isCompE v = false := by simpa using cv
    have sw : swapsWith v (some (.Name y py)) pos.line X.env = pure false := by
      cases v <;> first | (cases cv; done) | rfl
    exact PS.by (ps_set ok.nd hi h1 pe sw h2) fun E σ H h => h
end
end Mini

set_option Elab.async false
set_option linter.all false
set_option maxHeartbeats 2000000
/-! Mini: a checked statement does what its Mini statement does. -/
namespace Mini
open PySem L2 PySem.Spec PyProof.Rows

section
variable {C : CkP} {G : Defs} {X : Cx} {m e a b c : ME} {s t u : MS} {x : Expr} {fu rl : Nat}
theorem SoundS.of1 (h : ∀ X, SOk C G X → ∀ st, ckS C X.N rl s X.env.scope [st] = true → PS X st (tS X.K G fu rl s)) (one : ∀ N sc sts, ckS C N rl s sc sts = true → ∃ st, sts = [st]) : SoundS C G fu rl s :=
  ⟨h, fun X ok sts hc => by
    obtain ⟨st, rfl⟩ := one _ _ _ hc
    exact pss_one (h X ok st hc)⟩
theorem one_of {f : CsF} {sc : Scope} {sts : List Stmt} (h : f sc sts = true) (h0 : ∀ sc, f sc [] = false) (h2 : ∀ sc a b r, f sc (a :: b :: r) = false) : ∃ st, sts = [st] := by
  rcases sts with _ | ⟨a, _ | ⟨b, r⟩⟩
  · rw [h0] at h; cases h
  · exact ⟨a, rfl⟩
  · rw [h2] at h; cases h
theorem ss_skp : SoundS C G fu rl .skp := by
  have key : ∀ (X : Cx) (E : Ends) (σ : L2.St) (H : Hp), tS X.K G fu rl .skp E σ H → tNext E σ H := fun X E σ H h => by
    obtain ⟨B, ρ, O, sr, h⟩ := h
    exact h σ H O (.refl sr)
  have hs : ∀ X, SOk C G X → ∀ st, ckS C X.N rl .skp X.env.scope [st] = true → PS X st (tS X.K G fu rl .skp) := fun X ok st h => by
    cases st <;> first | (cases h; done) | skip
    · rename_i v pos
      cases v <;> first | (cases h; done) | skip
      rename_i cc k p
      cases cc <;> first | (cases h; done) | skip
      exact PS.by ps_doc (key X)
    · exact PS.by ps_pass (key X)
  refine ⟨hs, fun X ok sts h => ?_⟩
  rcases sts with _ | ⟨a, _ | ⟨b, r⟩⟩
  · exact PSs.by pss_nil (key X)
  · exact pss_one (hs X ok a h)
  · exfalso
    cases a <;> first | (cases h; done) | skip
    rename_i v pos
    cases v <;> first | (cases h; done) | skip
    rename_i cc k p
    cases cc <;> cases h
theorem ss_seq (ihs : SoundS C G fu rl s) (iht : SoundS C G fu rl t) : SoundS C G fu rl (.seq s t) := by
  refine ⟨fun X ok st h => (by cases h), fun X ok sts h => ?_⟩
  rcases sts with _ | ⟨a, _ | ⟨b, r⟩⟩ <;> first | (cases h; done) | skip
  have h : (ckS C X.N rl s X.env.scope [a] && ckS C X.N rl t X.env.scope (b :: r)) = true := h
  rw [Bool.and_eq_true] at h
  exact PSs.by (pss_cons (ihs.s X ok a h.1) (iht.b X ok (b :: r) h.2)) fun E σ H => r_seq
theorem csNm_inv {N : List Str} {i : Nat} {ce : CkF} {sc : Scope} {sts : List Stmt} (h : csNm N i m ce sc sts = true) : ∃ y py v pos, sts = [.Assign [.Name y py] v pos] ∧ N[i]? = some y ∧ stB false sc y = true ∧ ce sc (.e v) = true ∧ (!isCompE v || (isCompM m && isLC v)) = true := by
  unfold csNm at h
  split at h
  · simp only [Bool.and_eq_true, decide_eq_true_eq] at h
    exact ⟨_, _, _, _, rfl, h.1, h.2.1, h.2.2.1, h.2.2.2⟩
  · cases h
theorem ss_asg {t : Tgt} : SoundS C G fu rl (.asg t m) := by
  by_cases ht : ∃ i, t = .nm i
  · obtain ⟨i, rfl⟩ := ht
    refine .of1 (fun X ok st h => ?_) (fun N sc sts h => ?_)
    · have h : (isE m && csNm X.N i m (ck C X.N m) X.env.scope [st]) = true := h
      rw [Bool.and_eq_true] at h
      obtain ⟨y, py, v, pos, e, h1, h2, h3, h4⟩ := csNm_inv h.2
      cases e
      exact PS.by (ps_name ok h1 h2 h3 h4) fun E σ H => r_asg h.1
    · have h : (isE m && csNm N i m (ck C N m) sc sts) = true := h
      rw [Bool.and_eq_true] at h
      obtain ⟨y, py, v, pos, e, _⟩ := csNm_inv h.2
      exact ⟨_, e⟩
  · have ec : ∀ N, ckS C N rl (.asg t m) = fun sc sts => isE m && csTup N t (ck C N m) sc sts := fun N => by
      cases t <;> first | rfl | exact absurd ⟨_, rfl⟩ ht
    have inv : ∀ {N sc sts}, csTup N t (ck C N m) sc sts = true → ∃ ts k p v pos, sts = [.Assign [.Tuple ts k p] v pos] ∧ (okT t).1 = true ∧ ckT false N sc t [.Tuple ts k p] = true ∧ ck C N m sc (.e v) = true ∧ isTupE v = false := by
      intro N sc sts h
      unfold csTup at h
      split at h
      · simp only [Bool.and_eq_true, Bool.not_eq_true'] at h
        exact ⟨_, _, _, _, _, rfl, h.1, h.2.1, h.2.2.1, h.2.2.2⟩
      · cases h
    refine .of1 (fun X ok st h => ?_) (fun N sc sts h => ?_)
    · rw [ec] at h
      have h : (isE m && csTup X.N t (ck C X.N m) X.env.scope [st]) = true := h
      rw [Bool.and_eq_true] at h
      obtain ⟨ts, k, p, v, pos, e, h1, h2, h3, h4⟩ := inv h.2
      cases e
      have sw : swapsWithSole [.Tuple ts k p] v pos.line X.env = pure false := by cases v <;> rfl
      have sw2 : swappedStores [.Tuple ts k p] v X.env = pure none := by cases v <;> first | (cases h4; done) | rfl
      exact PS.by (ps_asg ((sound C G m).e X ok.toXOk v h3) ((pg_tgt ok.nd ok.calm (fun _ => ok.fnA) t).1 h1 _ h2) sw sw2 rfl) fun E σ H => r_tup' h1 h.1
    · rw [ec] at h
      have h : (isE m && csTup N t (ck C N m) sc sts) = true := h
      rw [Bool.and_eq_true] at h
      obtain ⟨ts, k, p, v, pos, e, _⟩ := inv h.2
      exact ⟨_, e⟩
theorem ss_fre {n i : Nat} : SoundS C G fu rl (.fre n i m) := by
  refine .of1 (fun X ok st h => ?_) (fun N sc sts h => ?_)
  · have h : ((isF n m && n != 0) && csNm X.N i m (ck C X.N m) X.env.scope [st]) = true := h
    simp only [Bool.and_eq_true, bne_iff_ne] at h
    obtain ⟨y, py, v, pos, e, h1, h2, h3, h4⟩ := csNm_inv h.2
    cases e
    exact PS.by (ps_name ok h1 h2 h3 h4) fun E σ H => r_fre h.1.1 h.1.2
  · have h : ((isF n m && n != 0) && csNm N i m (ck C N m) sc sts) = true := h
    rw [Bool.and_eq_true] at h
    obtain ⟨y, py, v, pos, e, _⟩ := csNm_inv h.2
    exact ⟨_, e⟩
theorem parOk_len : ∀ {ts : List (Nat × Nat)} {es : ME}, parOk ts es = true → (listM es).length = ts.length
  | [], es, h => by cases es <;> first | rfl | cases h
  | p :: ts, es, h => by
    obtain ⟨n, i⟩ := p
    cases es <;> first | (cases h; done) | skip
    rename_i m es
    have h : ((if n == 0 then isE m else isF n m) && parOk ts es) = true := h
    rw [Bool.and_eq_true] at h
    simp [listM, parOk_len h.2]
theorem ss_par {ts : List (Nat × Nat)} {es : ME} : SoundS C G fu rl (.par ts es) := by
  have inv : ∀ {N sc sts}, csPar N ts es (ck C N es) sc sts = true → ∃ xs k p vs k2 p2 pos, sts = [.Assign [.Tuple xs k p] (.Tuple vs k2 p2) pos] ∧ ckNms N sc (ts.map (·.2)) xs = true ∧ (ts.map (·.2)).Nodup ∧ ck C N es sc (.a vs) = true ∧ parOk ts es = true ∧ (swK sc xs vs).isSome = true ∧ ts.length ≤ LIM := by
    intro N sc sts h
    unfold csPar at h
    split at h
    · simp only [Bool.and_eq_true, decide_eq_true_eq] at h
      exact ⟨_, _, _, _, _, _, _, rfl, h.1, h.2.1, h.2.2.1, h.2.2.2.1, h.2.2.2.2.1, h.2.2.2.2.2⟩
    · cases h
  refine .of1 (fun X ok st h => ?_) (fun N sc sts h => ?_)
  · obtain ⟨xs, k, p, vs, k2, p2, pos, e, h1, h2, h3, h4, h5, h6⟩ := inv h
    cases e
    have l := parOk_len h4
    have l2 := (ckNms_len h1).1
    rw [List.length_map] at l2
    refine PS.by (ps_parN ok h1 h2 ((sound C G es).a X ok.toXOk vs h3) h5) fun E σ H h => ?_
    have q := r_par h4 (by rw [l]; exact h6) h
    rw [l, l2] at q
    exact q
  · obtain ⟨xs, k, p, vs, k2, p2, pos, e, _⟩ := inv h
    exact ⟨_, e⟩
theorem ss_aug {i : Nat} {o : Op2} : SoundS C G fu rl (.aug i o m) := by
  have inv : ∀ {N sc sts}, csAug N i o m (ck C N m) sc sts = true → ∃ x px op v pos, sts = [.AugAssign (.Name x px) op v pos] ∧ N[i]? = some x ∧ stB false sc x = true ∧ augB o op = true ∧ ck C N m sc (.e v) = true ∧ isE m = true := by
    intro N sc sts h
    unfold csAug at h
    split at h
    · simp only [Bool.and_eq_true, decide_eq_true_eq] at h
      exact ⟨_, _, _, _, _, rfl, h.1, h.2.1, h.2.2.1, h.2.2.2.1, h.2.2.2.2⟩
    · cases h
  refine .of1 (fun X ok st h => ?_) (fun N sc sts h => ?_)
  · obtain ⟨x, px, op, v, pos, e, h1, h2, h3, h4, h5⟩ := inv h
    cases e
    obtain ⟨l1, l2⟩ := stB_ok (fun _ => ok.fnA) h2
    have pe := (sound C G m).e X ok.toXOk v h4
    cases o <;> cases op <;> first | (cases h3; done) | skip
    · refine PS.by (ps_aug ok.nd h1 l1 pe ip_add l2) fun E σ H => r_aug (fun x y z e => ?_) h5
      cases x <;> cases y <;> first | (cases e; done) | (cases e; exact ⟨_, _, rfl, rfl, rfl⟩)
    · refine PS.by (ps_aug ok.nd h1 l1 pe ip_sub l2) fun E σ H => r_aug (fun x y z e => ?_) h5
      cases x <;> cases y <;> first | (cases e; done) | (cases e; exact ⟨_, _, rfl, rfl, rfl⟩)
  · obtain ⟨x, px, op, v, pos, e, _⟩ := inv h
    exact ⟨_, e⟩
theorem ss_exp : SoundS C G fu rl (.exp m) := by
  have inv : ∀ {N sc sts}, csExp (ck C N m) sc sts = true → ∃ v pos, sts = [.Expr v pos] ∧ ck C N m sc (.e v) = true ∧ isCompE v = false := by
    intro N sc sts h
    unfold csExp at h
    split at h
    · simp only [Bool.and_eq_true, Bool.not_eq_true'] at h
      exact ⟨_, _, rfl, h.1, h.2⟩
    · cases h
  refine .of1 (fun X ok st h => ?_) (fun N sc sts h => ?_)
  · obtain ⟨v, pos, e, h1, h2⟩ := inv h
    cases e
    have sw : swapsWith v none pos.line X.env = pure false := by cases v <;> first | (cases h2; done) | rfl
    exact PS.by (ps_expr ((sound C G m).e X ok.toXOk v h1) sw) fun E σ H => r_exp
  · obtain ⟨v, pos, e, _⟩ := inv h
    exact ⟨_, e⟩
theorem ss_ret : SoundS C G fu rl (.ret m) := by
  have inv : ∀ {N sc sts}, csRet rl m (ck C N m) sc sts = true → ∃ v pos, sts = [.Return (some v) pos] ∧ ck C N m sc (.e v) = true ∧ (if rl == 0 then isE m else isF rl m) = true := by
    intro N sc sts h
    unfold csRet at h
    split at h
    · simp only [Bool.and_eq_true] at h
      exact ⟨_, _, rfl, h.1, h.2⟩
    · cases h
  refine .of1 (fun X ok st h => ?_) (fun N sc sts h => ?_)
  · obtain ⟨v, pos, e, h1, h2⟩ := inv h
    cases e
    exact PS.by (ps_ret ((sound C G m).e X ok.toXOk v h1)) fun E σ H => r_ret h2
  · obtain ⟨v, pos, e, _⟩ := inv h
    exact ⟨_, e⟩
theorem own_non {K : PySem.W.Frag} {N : Addr → Prop} {H : Hp} : ∀ n, Own K N H n .none .non []
  | 0 => ⟨rfl, rfl⟩
  | _ + 1 => ⟨rfl, rfl⟩
theorem ss_rtn : SoundS C G fu rl .rtn := by
  refine .of1 (fun X ok st h => ?_) (fun N sc sts h => ?_)
  · cases st <;> first | (cases h; done) | skip
    rename_i v pos
    cases v <;> first | (cases h; done) | skip
    refine PS.by ps_retN fun E σ H h => ?_
    obtain ⟨B, ρ, O, sr, h⟩ := h
    exact h .non σ H O [] (.refl sr) (own_non rl) Fr.nil (by rw [pl_nil]; exact sr) (own_non rl)
  · exact one_of (f := csRtn) h (fun _ => rfl) (fun sc a b r => by cases a <;> first | rfl | (rename_i v _; cases v <;> rfl))
theorem ss_ifs (iha : SoundS C G fu rl s) (ihb : SoundS C G fu rl t) : SoundS C G fu rl (.ifs m s t) := by
  have inv : ∀ {N sc sts}, csIf m (ck C N m) (ckS C N rl s) (ckS C N rl t) sc sts = true → ∃ x a b pos, sts = [.If x a b pos] ∧ ck C N m sc (.e x) = true ∧ isL m = true ∧ ckS C N rl s sc a = true ∧ ckS C N rl t sc b = true := by
    intro N sc sts h
    unfold csIf at h
    split at h
    · simp only [Bool.and_eq_true] at h
      exact ⟨_, _, _, _, rfl, h.1, h.2.1, h.2.2.1, h.2.2.2⟩
    · cases h
  refine .of1 (fun X ok st h => ?_) (fun N sc sts h => ?_)
  · obtain ⟨x, a, b, pos, e, h1, h2, h3, h4⟩ := inv h
    cases e
    exact PS.by (ps_if ((sound C G m).t X ok.toXOk x h1 h2) (iha.b X ok a h3) (ihb.b X ok b h4)) fun E σ H => r_ifs
  · obtain ⟨x, a, b, pos, e, _⟩ := inv h
    exact ⟨_, e⟩
theorem ss_whl (ih : SoundS C G fu rl s) : SoundS C G fu rl (.whl m s) := by
  have inv : ∀ {N sc sts}, csWhl m (ck C N m) (ckS C N rl s) sc sts = true → ∃ x b pos, sts = [.While x b [] pos] ∧ ck C N m sc (.e x) = true ∧ isL m = true ∧ ckS C N rl s sc b = true := by
    intro N sc sts h
    unfold csWhl at h
    split at h
    · simp only [Bool.and_eq_true] at h
      exact ⟨_, _, _, rfl, h.1, h.2.1, h.2.2⟩
    · cases h
  refine .of1 (fun X ok st h => ?_) (fun N sc sts h => ?_)
  · obtain ⟨x, b, pos, e, h1, h2, h3⟩ := inv h
    cases e
    exact PS.by (ps_while (by rw [ok.px]; exact PassesOwn.never) ((sound C G m).t X ok.toXOk x h1 h2) (ih.b X ok b h3)) fun E σ H => r_whl
  · obtain ⟨x, b, pos, e, _⟩ := inv h
    exact ⟨_, e⟩
theorem ss_lop {tg : Tgt} (ih : SoundS C G fu rl s) : SoundS C G fu rl (.lop tg m s) := by
  have inv : ∀ {N sc sts}, csLop N tg m (plcT tg ++ effS s) (ck C N m) (ckS C N rl s) sc sts = true → ∃ y x b pos, sts = [.For y x b [] pos] ∧ (okT tg).1 = true ∧ ckT false N sc tg [y] = true ∧ ck C N m sc (.it y x) = true ∧ (∀ i ∈ bsl m, i ∉ plcT tg ++ effS s) ∧ ckS C N rl s sc b = true := by
    intro N sc sts h
    unfold csLop at h
    split at h
    · simp only [Bool.and_eq_true] at h
      obtain ⟨h1, h2, h3, h4, h5⟩ := h
      refine ⟨_, _, _, _, rfl, h1, h2, h3, fun i hi q => ?_, h5⟩
      rw [List.all_eq_true] at h4
      have := h4 i hi
      rw [Bool.not_eq_true', ← Bool.not_eq_true, List.contains_iff_mem] at this
      exact this q
    · cases h
  refine .of1 (fun X ok st h => ?_) (fun N sc sts h => ?_)
  · obtain ⟨y, x, b, pos, e, h1, h2, h3, h4, h5⟩ := inv h
    cases e
    obtain ⟨p1, p2⟩ := (sound C G m).i X ok.toXOk y x h3
    exact PS.by (ps_for (by rw [ok.px]; exact PassesOwn.never) ok.calm p1 ((pg_tgt ok.nd ok.calm (fun _ => ok.fnA) tg).1 h1 y h2) (ih.b X ok b h5) (fsi p2)) fun E σ H => r_lop h1 h4
  · obtain ⟨y, x, b, pos, e, _⟩ := inv h
    exact ⟨_, e⟩
theorem ss_brk : SoundS C G fu rl .brk := by
  refine .of1 (fun X ok st h => ?_) (fun N sc sts h => one_of (f := csBrk) h (fun _ => rfl) (fun sc a b r => by cases a <;> rfl))
  cases st <;> first | (cases h; done) | skip
  refine PS.by ps_break fun E σ H h => ?_
  obtain ⟨B, ρ, O, sr, h⟩ := h
  exact h σ H O (.refl sr)
theorem ss_cnt : SoundS C G fu rl .cnt := by
  refine .of1 (fun X ok st h => ?_) (fun N sc sts h => one_of (f := csCnt) h (fun _ => rfl) (fun sc a b r => by cases a <;> rfl))
  cases st <;> first | (cases h; done) | skip
  refine PS.by ps_continue fun E σ H h => ?_
  obtain ⟨B, ρ, O, sr, h⟩ := h
  exact h σ H O (.refl sr)
theorem ss_nvr : SoundS C G fu rl .nvr := by
  refine .of1 (fun X ok st h => ?_) (fun N sc sts h => one_of (f := csNvr) h (fun _ => rfl) (fun sc a b r => by cases a <;> rfl))
  exact PS.by ps_never fun E σ H h => by
    obtain ⟨B, ρ, O, sr, h⟩ := h
    exact h
theorem ni_of {i : Nat} {l : List Nat} (h : (!l.contains i) = true) : i ∉ l := fun q => by
  rw [Bool.not_eq_true', ← Bool.not_eq_true, List.contains_iff_mem] at h
  exact h q
theorem ss_app {n i : Nat} {k : Option Str} : SoundS C G fu rl (.app n i k m) := by
  have inv : ∀ {N sc sts}, csApp N n i k m (ck C N m) sc sts = true →
      (∃ x px q v q' pos, sts = [.Expr (.Call (.Attribute (.Name x px) "append" q) [v] [] q') pos] ∧ nmB N sc i x = true ∧ k = none ∧ n = 1 ∧ (q.endLine == q'.line) = true ∧ star v = false ∧ ck C N m sc (.e v) = true ∧ isE m = true ∧ i ∉ eff m) ∨
      ∃ x px z j p1 p2 q v q' pos, sts = [.Expr (.Call (.Attribute (.Subscript (.Name x px) (.Constant (.str z) j p1) p2) "append" q) [v] [] q') pos] ∧ nmB N sc i x = true ∧ k = some z ∧ n = 2 ∧ (q.endLine == q'.line) = true ∧ star v = false ∧ ck C N m sc (.e v) = true ∧ isE m = true ∧ i ∉ eff m := by
    intro N sc sts h
    unfold csApp at h
    split at h
    · simp only [Bool.and_eq_true, decide_eq_true_eq, Bool.not_eq_true'] at h
      obtain ⟨h1, rfl, h3, h4, h5, h6, h7, h8, h9⟩ := h
      refine .inl ⟨_, _, _, _, _, _, rfl, h1, ?_, by simpa using h4, h5, h6, h7, h8, ni_of (by rw [h9]; rfl)⟩
      cases k with
      | none => rfl
      | some z => cases h3
    · simp only [Bool.and_eq_true, decide_eq_true_eq, Bool.not_eq_true'] at h
      obtain ⟨h1, rfl, h3, h4, h5, h6, h7, h8, h9⟩ := h
      exact .inr ⟨_, _, _, _, _, _, _, _, _, _, rfl, h1, h3, by simpa using h4, h5, h6, h7, h8, ni_of (by rw [h9]; rfl)⟩
    · cases h
  refine .of1 (fun X ok st h => ?_) (fun N sc sts h => ?_)
  · rcases inv h with ⟨x, px, q, v, q', pos, e, h1, rfl, rfl, h4, h5, h6, h7, h8⟩ | ⟨x, px, z, j, p1, p2, q, v, q', pos, e, h1, rfl, rfl, h4, h5, h6, h7, h8⟩
    · cases e
      obtain ⟨q1, q2, q3, q4⟩ := nmB_ok h1
      have pe := (sound C G m).e X ok.toXOk v h6
      have sc := star_cons (env := X.env) (xs := []) h5
      exact PS.by (ps_expr (pe_bm PySem.F.plainAttrs_list PySem.F.slot_list_append PySem.F.type_list_append mt_append (pe_var q1 q2 q3 q4) (pa_cons pe pa_nil sc) rfl (by rw [sc]; rfl) h4 sc rfl) rfl) fun E σ H => r_app h7 h8
    · cases e
      obtain ⟨q1, q2, q3, q4⟩ := nmB_ok h1
      have pe := (sound C G m).e X ok.toXOk v h6
      have sc := star_cons (env := X.env) (xs := []) h5
      exact PS.by (ps_expr (pe_bm PySem.F.plainAttrs_list PySem.F.slot_list_append PySem.F.type_list_append mt_append (pe_dget (by have := ok.hu; omega) (pe_var q1 q2 q3 q4) pe_str (fun _ _ => rfl)) (pa_cons pe pa_nil sc) rfl (by rw [sc]; rfl) h4 sc rfl) rfl) fun E σ H => r_appk h7 h8
  · rcases inv h with ⟨x, px, q, v, q', pos, e, _⟩ | ⟨x, px, z, j, p1, p2, q, v, q', pos, e, _⟩ <;> exact ⟨_, e⟩
theorem ss_set {n i : Nat} : SoundS C G fu rl (.set n i m e) := by
  have inv : ∀ {N sc sts}, csSet N n i m e (ck C N m) (ck C N e) sc sts = true → ∃ x px y p v pos, sts = [.Assign [.Subscript (.Name x px) y p] v pos] ∧ nmB N sc i x = true ∧ n = 1 ∧ ck C N m sc (.e y) = true ∧ ck C N e sc (.e v) = true ∧ isE m = true ∧ isE e = true ∧ isSlice y = false ∧ i ∉ eff m := by
    intro N sc sts h
    unfold csSet at h
    split at h
    · simp only [Bool.and_eq_true, Bool.not_eq_true'] at h
      obtain ⟨h1, h2, h3, h4, h5, h6, h7, h8⟩ := h
      exact ⟨_, _, _, _, _, _, rfl, h1, by simpa using h2, h3, h4, h5, h6, h7, ni_of (by rw [h8]; rfl)⟩
    · cases h
  refine .of1 (fun X ok st h => ?_) (fun N sc sts h => ?_)
  · obtain ⟨x, px, y, p, v, pos, ee, h1, rfl, h3, h4, h5, h6, h7, h8⟩ := inv h
    cases ee
    obtain ⟨q1, q2, q3, q4⟩ := nmB_ok h1
    have sw : swapsWithSole [.Subscript (.Name x px) y p] v pos.line X.env = pure false := by cases v <;> rfl
    have ha : ∀ w, assign (.Subscript (.Name x px) y p) X.env w = (do
        let ov ← holding [w] (eval (.Name x px) X.env)
        let iv ← holding [w, ov] (eval y X.env)
        standAt p
        holding [w, ov, iv] (setItem ov iv w)
        release [w, ov, iv] []) := by
      intro w
      cases y <;> first | (cases h7; done) | rfl
    exact PS.by (ps_asg ((sound C G e).e X ok.toXOk v h4) (pg_sub (pe_var q1 q2 q3 q4) ((sound C G m).e X ok.toXOk y h3) set_list ha) sw rfl rfl) fun E σ H => r_set h6 h5 h8
  · obtain ⟨x, px, y, p, v, pos, ee, _⟩ := inv h
    exact ⟨_, ee⟩
theorem ss_setK {n i : Nat} {k : Str} : SoundS C G fu rl (.setK n i k m) := by
  have inv : ∀ {N sc sts}, csSetK N n i k m (ck C N m) sc sts = true → ∃ x px j p p1 v pos, sts = [.Assign [.Subscript (.Name x px) (.Constant (.str k) j p) p1] v pos] ∧ nmB N sc i x = true ∧ n = 2 ∧ ck C N m sc (.e v) = true ∧ isE m = true := by
    intro N sc sts h
    unfold csSetK at h
    split at h
    · simp only [Bool.and_eq_true, decide_eq_true_eq] at h
      obtain ⟨h1, h2, rfl, h4, h5⟩ := h
      exact ⟨_, _, _, _, _, _, _, rfl, h1, by simpa using h2, h4, h5⟩
    · cases h
  refine .of1 (fun X ok st h => ?_) (fun N sc sts h => ?_)
  · obtain ⟨x, px, j, p, p1, v, pos, ee, h1, rfl, h4, h5⟩ := inv h
    cases ee
    obtain ⟨q1, q2, q3, q4⟩ := nmB_ok h1
    have sw : swapsWith v (some (.Subscript (.Name x px) (.Constant (.str k) j p) p1)) pos.line X.env = pure false := by cases v <;> rfl
    exact PS.by (ps_dput (by have := ok.hu; omega) (pe_var q1 q2 q3 q4) pe_str ((sound C G m).e X ok.toXOk v h4) sw) fun E σ H => r_setK h5
  · obtain ⟨x, px, j, p, p1, v, pos, ee, _⟩ := inv h
    exact ⟨_, ee⟩
/-- THE THEOREM, of statements -/
theorem soundS (C : CkP) (G : Defs) (fu rl : Nat) : ∀ s : MS, SoundS C G fu rl s := by
  intro s
  induction s with
  | skp => exact ss_skp
  | seq a b iha ihb => exact ss_seq iha ihb
  | asg t e => exact ss_asg
  | fre n i e => exact ss_fre
  | par ts es => exact ss_par
  | aug i o e => exact ss_aug
  | exp e => exact ss_exp
  | ret e => exact ss_ret
  | rtn => exact ss_rtn
  | ifs c a b iha ihb => exact ss_ifs iha ihb
  | whl c b ih => exact ss_whl ih
  | lop t it b ih => exact ss_lop ih
  | brk => exact ss_brk
  | cnt => exact ss_cnt
  | app n i k e => exact ss_app
  | set n i ix e => exact ss_set
  | setK n i k e => exact ss_setK
  | nvr => exact ss_nvr
end
end Mini

set_option Elab.async false
set_option linter.all false
set_option maxHeartbeats 2000000
/-! Mini: defs of the program do what their Mini defs come to. -/
namespace Mini
open PySem L2 PySem.Spec PyProof.Rows

/-! ### the checker of a def -/
def nkVis : Option NameKind → Bool
  | some .local => true
  | some .cell => true
  | _ => false
def nkFree : NameKind → Bool
  | .free => true
  | _ => false
def msOk (st : List Nat) : Nat → List Nat → Bool
  | _, [] => true
  | i, 0 :: r => msOk st (i + 1) r
  | i, (_ + 1) :: r => !st.contains i && msOk st (i + 1) r
def fnKind : Scope → Bool
  | ⟨.function, _, false, false, _⟩ => true
  | _ => false
def ckDf (C : CkP) (df : Df) (sc : Scope) (body : List Stmt) : Bool :=
  fnKind sc && (decide (df.N.Nodup) && (decide (df.N.take df.ps.length = df.ps) && (df.ps.all (fun x => nkVis (sc.names.lookup x)) && (sc.names.all (fun y => !nkFree y.2) &&
    (decide (df.ms.length = df.ps.length) && (msOk (stoS df.body) 0 df.ms && ckS C df.N df.ret df.body sc body))))))
theorem msOk_ok {st : List Nat} : ∀ {ms : List Nat} {i j n : Nat}, msOk st i ms = true → ms[j]? = some (n + 1) → i + j ∉ st
  | [], _, _, _, _, e => by cases e
  | 0 :: r, i, 0, n, _, e => by cases e
  | 0 :: r, i, j + 1, n, h, e => by
    have := msOk_ok (ms := r) (i := i + 1) (j := j) (n := n) h (by simpa using e)
    rwa [Nat.add_right_comm, Nat.add_assoc] at this
  | (k + 1) :: r, i, 0, n, h, e => by
    unfold msOk at h
    rw [Bool.and_eq_true] at h
    simpa using h.1
  | (k + 1) :: r, i, j + 1, n, h, e => by
    unfold msOk at h
    rw [Bool.and_eq_true] at h
    have := msOk_ok (ms := r) (i := i + 1) (j := j) (n := n) h.2 (by simpa using e)
    rwa [Nat.add_right_comm, Nat.add_assoc] at this
theorem fnKind_ok {sc : Scope} (h : fnKind sc = true) : sc.kind = .function ∧ sc.isCoroutine = false ∧ sc.isGenerator = false := by
  unfold fnKind at h
  split at h
  · exact ⟨rfl, by rfl, by rfl⟩
  · cases h
structure DfOk (C : CkP) (df : Df) (sc : Scope) (body : List Stmt) : Prop where
  S : FnScope df.N df.ps sc
  ml : df.ms.length = df.ps.length
  sto : ∀ j n, df.ms[j]? = some (n + 1) → j ∉ stoS df.body
  ck : ckS C df.N df.ret df.body sc body = true
theorem ckDf_ok {C : CkP} {df : Df} {sc : Scope} {body : List Stmt} (h : ckDf C df sc body = true) : DfOk C df sc body := by
  unfold ckDf at h
  simp only [Bool.and_eq_true, decide_eq_true_eq] at h
  obtain ⟨h1, h2, h3, h4, h5, h6, h7, h8⟩ := h
  obtain ⟨k1, k2, k3⟩ := fnKind_ok h1
  refine ⟨⟨k1, k2, k3, h2, h3, fun x hx => ?_, fun y hy e => ?_⟩, h6, fun j n e => by have := msOk_ok h7 e; rwa [Nat.zero_add] at this, h8⟩
  · have := List.all_eq_true.mp h4 x hx
    unfold nkVis at this
    split at this
    · exact .inl (by assumption)
    · exact .inr (by assumption)
    · cases this
  · have := List.all_eq_true.mp h5 y hy
    rw [e] at this
    cases this

/-! ### a frame's beginning and its end -/
section
variable {K : PySem.W.Frag} {B B' : Addr → Prop} {σ σ' : L2.St} {H H' : Hp} {ρ ρ' ρ0 : Rho} {O O' : Nat → List Addr} {S S' : Nat → Prop} {d : D} {v : V} {as : List Addr} {ms : List Nat} {ds : List D} {vs : List V}
theorem getS_pad {n i : Nat} : getS (ρ ++ List.replicate n none) i = getS ρ i := by
  unfold getS
  by_cases h : i < ρ.length
  · rw [List.getElem?_append_left h]
  · rw [List.getElem?_append_right (by omega), List.getElem?_eq_none (l := ρ) (by omega)]
    cases e : (List.replicate n (none : Slot))[i - ρ.length]? with
    | none => rfl
    | some x =>
      have := List.mem_of_getElem? e
      rw [List.mem_replicate] at this
      rw [this.2]; rfl
theorem SR.pad {n : Nat} (r : SR K B σ H ρ O) : SR K B (σ ++ List.replicate n none) H (ρ ++ List.replicate n none) O := by
  refine ⟨r.kd, by rw [List.length_append, List.length_append, r.len, List.length_replicate, List.length_replicate], fun i k d e => ?_, fun i e => ?_, r.dj, r.nd, r.nb, r.bt⟩
  · rw [getS_pad] at e
    obtain ⟨v, h1, h2⟩ := r.sl i k d e
    have := getS_lt e
    exact ⟨v, by rw [List.getElem?_append_left (by rw [r.len]; exact this)]; exact h1, h2⟩
  · rw [getS_pad] at e
    exact r.em i e
def isIo : Option Nat → Bool
  | some (_ + 1) => true
  | _ => false
theorem isIo_sm {j : Nat} : isIo ms[j]? = true ↔ Sm ms j := by
  unfold isIo
  constructor
  · intro h
    split at h
    · rename_i n e; exact ⟨n, e⟩
    · cases h
  · rintro ⟨n, e⟩
    rw [e]
def bkR (ms : List Nat) (ρ0 ρ' : Rho) : Rho := (List.range ms.length).map fun j => if isIo ms[j]? = true then getS ρ' j else getS ρ0 j
def bkO (ms : List Nat) (O' : Nat → List Addr) : Nat → List Addr := fun j => if isIo ms[j]? = true then O' j else []
theorem getS_bk {j : Nat} (hl : ρ0.length = ms.length) : getS (bkR ms ρ0 ρ') j = if isIo ms[j]? = true then getS ρ' j else getS ρ0 j := by
  unfold bkR
  by_cases h : j < ms.length
  · unfold getS
    rw [List.getElem?_map, List.getElem?_range h]
    rfl
  · have e : ms[j]? = none := List.getElem?_eq_none (by omega)
    have e2 : ρ0[j]? = none := List.getElem?_eq_none (by omega)
    rw [e]
    unfold getS
    rw [e2, List.getElem?_eq_none (by rw [List.length_map, List.length_range]; omega)]
    rfl
theorem args_lv {j n : Nat} {d : D} (h : getS ((ms.zip ds).map some) j = some (n, d)) : ms[j]? = some n ∧ ds[j]? = some d := by
  unfold getS at h
  rw [List.getElem?_map] at h
  cases e : (ms.zip ds)[j]? with
  | none => rw [e] at h; cases h
  | some p =>
    rw [e] at h
    cases h
    exact List.getElem?_zip_eq_some.mp e
theorem io_none (r : SR K B σ H ρ0 O) (hlv : ∀ j n d, getS ρ0 j = some (n, d) → ms[j]? = some n) {j : Nat} (h : isIo ms[j]? = false) : O j = [] := by
  cases e : getS ρ0 j with
  | none => exact r.em j e
  | some p =>
    obtain ⟨n, d⟩ := p
    obtain ⟨v, _, o⟩ := r.sl j n d e
    rw [hlv j n d e] at h
    cases n with
    | zero => exact o.1
    | succ n => cases h
theorem nn_bk : ∀ a, NN (bkO ms O') B' a → NN O' B' a := fun a h => by
  rcases h with ⟨j, h⟩ | h
  · unfold bkO at h
    split at h
    · exact .inl ⟨j, h⟩
    · cases h
  · exact .inr h
theorem SR.bk (r : SR K B (vs.map some) H ρ0 O) (r' : SR K B' σ' H' ρ' O') (st : Stay K (NN O B) (NN O' B') H H') (hl : ρ0.length = ms.length) (hv : vs.length = ms.length) (hlv : ∀ j n d, getS ρ0 j = some (n, d) → ms[j]? = some n)
    (hσ : ∀ j : Nat, isIo ms[j]? = true → σ'[j]? = (vs.map some)[j]?) : SR K B' (vs.map some) H' (bkR ms ρ0 ρ') (bkO ms O') := by
  refine ⟨trivial, by rw [List.length_map, hv]; unfold bkR; rw [List.length_map, List.length_range], fun j n d e => ?_, fun j e => ?_, fun i j a h1 h2 => ?_, fun j => ?_, fun j a h => ?_, r'.bt⟩
  · rw [getS_bk hl] at e
    unfold bkO
    by_cases c : isIo ms[j]? = true
    · rw [if_pos c] at e ⊢
      obtain ⟨v, h1, h2⟩ := r'.sl j n d e
      rw [hσ j c] at h1
      exact ⟨v, h1, own_stay (stay_le nn_bk) (fun _ _ _ e => e) h2⟩
    · rw [if_neg c] at e ⊢
      obtain ⟨v, h1, h2⟩ := r.sl j n d e
      have c' : isIo ms[j]? = false := by simpa using c
      have e3 := io_none r hlv c'
      rw [hlv j n d e] at c'
      cases n with
      | succ n => cases c'
      | zero => exact ⟨v, h1, rfl, rep_stay (stay_le nn_bk) _ _ (rep_stay st _ _ h2.2)⟩
  · rw [getS_bk hl] at e
    unfold bkO
    by_cases c : isIo ms[j]? = true
    · rw [if_pos c] at e ⊢
      exact r'.em j e
    · rw [if_neg c]
  · unfold bkO at h1 h2
    split at h1
    · split at h2
      · exact r'.dj i j a h1 h2
      · cases h2
    · cases h1
  · unfold bkO
    split
    · exact r'.nd j
    · exact List.nodup_nil
  · unfold bkO at h
    split at h
    · exact r'.nb j a h
    · cases h
theorem Chg.bk (r : SR K B σ H ρ0 O) (c : Chg S H ρ O H' ρ' O') (hl : ρ0.length = ms.length) (hlv : ∀ j n d, getS ρ0 j = some (n, d) → ms[j]? = some n) : Chg (Sm ms) H ρ0 O H' (bkR ms ρ0 ρ') (bkO ms O') := by
  have up : ∀ i a, a ∈ O i → Sm ms i := fun i a h => by
    rw [← isIo_sm]
    cases q : isIo ms[i]? with
    | true => rfl
    | false => rw [io_none r hlv q] at h; cases h
  refine ⟨fun j n => ?_, fun j a s h => ?_, fun a o h n => ?_, by unfold bkR; rw [List.length_map, List.length_range, hl]⟩
  · rw [getS_bk hl]
    unfold bkO
    rw [← isIo_sm] at n
    rw [if_neg n, if_neg n]
    exact ⟨rfl, (io_none r hlv (by simpa using n)).symm⟩
  · unfold bkO at h
    rw [if_pos (isIo_sm.mpr s)] at h
    by_cases q : S j
    · exact (c.fresh j a q h).imp (fun ⟨i, _, hi⟩ => ⟨i, up i a hi, hi⟩) id
    · rw [(c.same j q).2] at h
      exact .inl ⟨j, s, h⟩
  · exact c.pres a o h fun i _ hi => n i (up i a hi) hi
theorem outs_back (hl : ρ0.length = ms.length) : outsOf (bkR ms ρ0 ρ') 0 ms = outsOf ρ' 0 ms := by
  have key : ∀ (l : List Nat) (i : Nat), (∀ j, l[j]? = ms[i + j]?) → outsOf (bkR ms ρ0 ρ') i l = outsOf ρ' i l := by
    intro l
    induction l with
    | nil => intro i _; rfl
    | cons n r ih =>
      intro i h
      have e0 := h 0
      have nx : ∀ j, r[j]? = ms[i + 1 + j]? := fun j => by
        have := h (j + 1)
        rw [List.getElem?_cons_succ] at this
        rw [this]
        congr 1
        omega
      cases n with
      | zero => unfold outsOf; exact ih _ nx
      | succ n =>
        unfold outsOf
        rw [ih _ nx]
        unfold ownD
        rw [getS_bk hl, if_pos (by rw [← Nat.add_zero i, ← e0]; rfl)]
  exact key ms 0 fun j => by rw [Nat.zero_add]
theorem Fr.bk (r : SR K B σ H ρ0 O) (f : Fr (NN O' B') S O H as) (hlv : ∀ j n d, getS ρ0 j = some (n, d) → ms[j]? = some n) : Fr (NN (bkO ms O') B') (Sm ms) O H as := by
  refine ⟨f.1, fun a h => ⟨fun n => (f.2 a h).1 (nn_bk a n), (f.2 a h).2.imp (fun ⟨i, _, hi⟩ => ⟨i, ?_, hi⟩) id⟩⟩
  rw [← isIo_sm]
  cases q : isIo ms[i]? with
  | true => rfl
  | false => rw [io_none r hlv q] at hi; cases hi
/-- the strong state: what the result owns is others', too -/
theorem stay_plF (r : SR K B σ H ρ O) (st : Stay K (NN O B) (NN O' B) H H') (f : Fr N S O H as) : Stay K (NN O B) (NN O' (pl B as)) H H' := by
  refine ⟨st.keep, fun a n h k => ?_⟩
  rcases k with k | k | k
  · exact st.out a n h (.inl k)
  · exact st.out a n h (.inr k)
  · rcases (f.2 a k).2 with ⟨i, _, hi⟩ | z
    · exact n (.inl ⟨i, hi⟩)
    · exact h z
end

/-! ### the body of a def, and what a def promises -/
section
variable {K : PySem.W.Frag} {G : Defs} {fu : Nat} {C : CkP} {df : Df} {sc : Scope} {body : List Stmt} {vs : List V} {H : Hp} {Q : VK}
theorem spD_tS (dk : DfOk C df sc body) (h : spD K df (runDf G fu df) vs H Q) : tS K G fu df.ret df.body { nx := fun _ H' => Q .non H', rt := Q } (L2.start df.N vs) H := by
  obtain ⟨B, ds, O, r, hd, hv, h⟩ := h
  unfold runDf at h
  rw [if_pos hd, Out.sat_bind] at h
  have hvm : vs.length = df.ms.length := by rw [hv, dk.ml]
  have hz : ((df.ms.zip ds).map some : Rho).length = df.ms.length := by rw [List.length_map, List.length_zip, hd, Nat.min_self]
  have hlv : ∀ j n d, getS ((df.ms.zip ds).map some) j = some (n, d) → df.ms[j]? = some n := fun j n d e => (args_lv e).1
  have hn : ds.length = vs.length := by rw [hd, hvm]
  have r0 : SR K B (L2.start df.N vs) H (startR df.ms ds df.N.length) O := by
    unfold L2.start startR
    rw [hn]
    exact r.pad
  refine ⟨B, _, O, r0, Out.sat_mono h fun ⟨o, ρ'⟩ _ h => ?_⟩
  have key : ∀ (d : PyData) (v : V) (σ' : L2.St) (H' : Hp) (O' : Nat → List Addr) (as : List Addr), Out.sat (do let x ← outsOf ρ' 0 df.ms; Out.ok (d, x)) (fun r => ∀ v H' ρ' O' as, SR K B (vs.map some) H' ρ' O' → Chg (Sm df.ms) H ((df.ms.zip ds).map some) O H' ρ' O' →
      outsOf ρ' 0 df.ms = .ok r.2 → Own K (NN O' B) H' df.ret r.1 v as → Fr (NN O' B) (Sm df.ms) O H as → SR K (pl B as) (vs.map some) H' ρ' O' → Own K (NN O' (pl B as)) H' df.ret r.1 v as → Q v H') →
      GotS K B df.body (L2.start df.N vs) H (startR df.ms ds df.N.length) O σ' H' ρ' O' → Own K (NN O' B) H' df.ret d v as → Fr (NN O' B) (fun j => j ∈ effS df.body) O H as → SR K (pl B as) σ' H' ρ' O' → Own K (NN O' (pl B as)) H' df.ret d v as → Q v H' := by
    intro d v σ' H' O' as h g ow f rs ows
    rw [Out.sat_bind] at h
    cases e : outsOf ρ' 0 df.ms with
    | bad => rw [e] at h; exact h.elim
    | ok l =>
      rw [e] at h
      have st := r0.stay g.ch g.sr
      have hσ : ∀ j : Nat, isIo df.ms[j]? = true → σ'[j]? = (vs.map some)[j]? := fun j hj => by
        have hs := isIo_sm.mp hj
        obtain ⟨n, hn⟩ := hs
        have hlt : j < df.ms.length := by
          rcases Nat.lt_or_ge j df.ms.length with q | q
          · exact q
          · rw [List.getElem?_eq_none q] at hn; cases hn
        rw [g.out j (dk.sto j n hn)]
        unfold L2.start
        rw [List.getElem?_append_left (by rw [List.length_map]; omega)]
      exact h v H' (bkR df.ms ((df.ms.zip ds).map some) ρ') (bkO df.ms O') as (r.bk g.sr st hz hvm hlv hσ) (g.ch.bk r hz hlv) ((outs_back hz).trans e) (own_stay (stay_le nn_bk) (fun _ _ _ e => e) ow) (f.bk r hlv)
        (r.bk rs (stay_plF r st f) hz hvm hlv hσ) (own_stay (stay_le nn_bk) (fun _ _ _ e => e) ows)
  cases o with
  | nx =>
    intro σ' H' O' g
    have ow : ∀ N, Own K N H' df.ret PyData.none .non [] := fun N => (own_flat (by rfl)).mpr ⟨rfl, rfl⟩
    exact key .none .non σ' H' O' [] h g (ow _) Fr.nil (by rw [pl_nil]; exact g.sr) (ow _)
  | rt d =>
    intro v σ' H' O' as g ow f rs ows
    exact key d v σ' H' O' as h g ow f rs ows
  | bk => exact h.elim
  | ct => exact h.elim
end
section
variable {P : Program} {w : World} {K : PySem.W.Frag} {mg : Str → Option Value} {base : Heap} {k : Nat}
/-- a def, by its body -/
theorem fnG_of {f : Addr} {name qual : Str} {params : Arguments} {body : List Stmt} {scope : Scope} {dV kV doc pm cdv ct oc : Value} {an od : Option Addr} {osl : Array (Option Value)} {N ps : List Str} {sp : List V → Hp → VK → Prop}
    (lk : K.lookup f = some ⟨oc, od, .func (PySem.W.fnOf name qual params body scope dV kV doc pm an cdv ct), osl⟩) (hcd : PySem.W.codeIn K cdv qual = true) (S : FnScope N ps scope) (len : ∀ vs H Q, sp vs H Q → vs.length = ps.length)
    (hbody : ∀ (A : Around) (outer : List Env) (s : Shared) (H : Hp) (vs : List V) (Q : VK), Room k (A.deeper (envOfC qual scope s.heap.objs.size f cdv)) → A.guards = some [] → sp vs H Q →
      ∃ t, PSs (cxOf CX0 P w K mg base N qual scope f cdv A outer s H E0).nox body t ∧ t { nx := fun _ H' => Q .non H', rt := Q } (L2.start N vs) H) :
    FnG P w K mg base (k + 1) f (PySem.W.fnOf name qual params body scope dV kV doc pm an cdv ct) ps sp := by
  refine ⟨fun A outer s H args us vs Q room gu e0 bound vals hsp => ?_⟩
  have hl := len _ _ _ hsp
  have old : ∀ b o, base.get? b = some o → s.heap.get? b = some o := fun b o e => (e0.bs b o e).1
  have kin : K.In s.heap := e0.mod.kin.keeps old
  have nolim : s.heap.NoLimit := e0.mod.nolimit.keeps old
  have kinds : ∀ y ∈ ps.zip us, scope.names.lookup y.1 = some .local ∨ (scope.names.lookup y.1 = some .cell ∧ ((cellsFrom (s.heap.objs.size + 1) scope.names []).lookup y.1).isSome = true) := by
    rintro ⟨y, u⟩ hy
    have hm : y ∈ ps := (List.of_mem_zip hy).1
    cases S.par y hm with
    | inl q => exact .inl q
    | inr q => exact .inr ⟨q, PySem.W.cellsFrom_some _ _ _ (.inl q)⟩
  refine codeAny_call_function room.depth (kin _ _ lk) rfl S.co S.gen rfl (PySem.W.codeRec_of kin hcd) (bound _ _ _ _ ?_)
  refine wpAny_newFunctionEnv_cells S.kind kinds fun env he s1 inc => ?_
  subst he
  refine ⟨nolim.keeps inc.toInCall.keep, codeAny_func ?_⟩
  obtain ⟨t, run, hq⟩ := hbody A outer s H vs Q (room.deeper _) gu hsp
  have I0 : Inv (cxOf CX0 P w K mg base N qual scope f cdv A outer s H E0) [] (L2.start N vs) H s1 := inv_start S room.hd e0 hl vals inc
  refine wpAny_mono (run.nox.run [] s1 (L2.start N vs) H _ I0 hq) (fun fl s' he => ?_) fun e s' he => he
  cases fl with
  | ret u =>
    obtain ⟨v, _, H', J, rv, q⟩ := he
    exact ⟨v, H', J.os, J.bare, J.base, J.hok, rv, q⟩
  | next =>
    obtain ⟨_, H', J, q⟩ := he
    exact ⟨.non, H', J.os, J.bare, J.base, J.hok, rfl, q⟩
  | brk => obtain ⟨_, _, _, q⟩ := he; exact q.elim
  | cont => obtain ⟨_, _, _, q⟩ := he; exact q.elim
/-- what is known of the program -/
structure LawE (C : CkP) (K : PySem.W.Frag) (mg : Str → Option Value) : Prop where
  blt : ∀ x ∈ bltNames, mg x = none
  gcd : C.gcd = true → mg "gcd" = some (.builtin "math.gcd")
  gc : ∀ p ∈ C.GC, ∃ t, mg p.1 = some (.int p.2 t)
  defs : ∀ f df, C.P f = some df → ∃ (x qual : Str) (params : Arguments) (body : List Stmt) (scope : Scope) (dvs : List V) (kws : List (Str × V)) (a : Addr) (fd : FuncData),
    mg df.nm = some (.ref a) ∧ FunD K x qual params body scope dvs kws a fd ∧ BindOk K fd df ∧ ckDf C df scope body = true
/-- EVERY def, at every depth -/
theorem allG {C : CkP} (L : LawE C K mg) (fu : Nat) : ∀ (n : Nat) (f : Nat) (df : Df) (x qual : Str) (params : Arguments) (body : List Stmt) (scope : Scope) (dvs : List V) (kws : List (Str × V)) (a : Addr) (fd : FuncData),
    C.P f = some df → FunD K x qual params body scope dvs kws a fd → ckDf C df scope body = true → FnG P w K mg base n a fd df.ps (spD K df (sem C.P fu n f))
  | 0, f, df, x, qual, params, body, scope, dvs, kws, a, fd, _, _, _ => ⟨fun A outer s H args us vs Q _ _ _ _ _ hsp => by
    obtain ⟨B, ds, O, _, _, _, h⟩ := hsp
    exact h.elim⟩
  | n + 1, f, df, x, qual, params, body, scope, dvs, kws, a, fd, hP, F, hc => by
    have dk := ckDf_ok hc
    obtain ⟨oc, od, dV, kV, doc, pm, an, cdv, ct, osl, rfl, lk, hcd, _, _⟩ := F.ex
    have e : sem C.P fu (n + 1) f = runDf (sem C.P fu n) fu df := by
      funext ds
      show (match C.P f with | some df => runDf (sem C.P fu n) fu df ds | none => .bad) = _
      rw [hP]
    rw [e]
    refine fnG_of lk hcd dk.S (fun vs H Q h => ?_) fun A outer s H vs Q room gu h => ?_
    · obtain ⟨_, _, _, _, _, hv, _⟩ := h
      exact hv
    · refine ⟨_, (soundS C (sem C.P fu n) fu df.ret df.body).b _ ⟨⟨dk.S.nd, rfl, ?_, ?_, rfl, L.blt, L.gcd, L.gc, fun g dg hg => ?_⟩, fun _ => rfl, dk.S.kind⟩ body dk.ck, spD_tS dk h⟩
      · exact room.units
      · exact gu
      · obtain ⟨x', q', p', b', sc', dv', kw', a', fd', h1, h2, h3, h4⟩ := L.defs g dg hg
        exact ⟨n, a', fd', h1, h2.kp, h3, room, allG L fu n g dg x' q' p' b' sc' dv' kw' a' fd' hg h2 h4⟩
end
end Mini

set_option Elab.async false
set_option linter.all false
set_option maxRecDepth 100000
set_option maxHeartbeats 2000000
/-! Mini: a law's end. -/
namespace Mini
open PySem L2 PySem.Spec PyProof.Rows

/-! ### from the script to the law's def -/
section
variable {P : Program} {w : World} {K : PySem.W.Frag} {mg mb : Str → Option Value} {k : Nat} {fa a : Addr} {fd : FuncData} {x : Str} {sp : List V → Hp → VK → Prop} {s₁ : Shared} {vs : List Value} {ns : List Int}
/-- what is tracked at the law's entry: the script at most -/
structure Entry (K : PySem.W.Frag) (a : Addr) (ns : List Int) (P : Program) (w : World) (s₁ : Shared) (H : Hp) : Prop where
  only : Only H
  seq : SqL K H a (ns.map V.int)
  hok : HOk P w H s₁.heap
  just : ∀ c, H c ≠ none → c = a
  unK : H a ≠ none → K.lookup a = none
theorem entry (KX : K.In s₁.heap) (ha : s₁.heap.get? a = some { cls := .type "list", data := .seq vs.toArray }) (hi : IntsAre vs ns) (hl : ns.length ≤ sizeLine) : ∃ H, Entry K a ns P w s₁ H := by
  have rv : Vals (ns.map V.int) vs := vals_ints hi
  have hsz : vs.toArray.size ≤ sizeLine := by rw [List.size_toArray, hi.length]; exact hl
  cases q : K.lookup a with
  | some o =>
    have eo : o = { cls := .type "list", data := .seq vs.toArray } := Option.some.inj ((KX a o q).symm.trans ha)
    subst eo
    refine ⟨fun _ => none, fun _ => .inl rfl, .inr ⟨_, vs.toArray, _, q, rfl, rfl, rfl, hsz, by simpa using rv⟩, fun c u z => (nomatch z), fun c z => absurd rfl z, fun z => absurd rfl z⟩
  | none =>
    have at_ : ∀ c u, (if c = a then some (HO.frz { cls := .type "list", data := .seq vs.toArray } (.lst (ns.map V.int))) else none) = some u → c = a ∧ u = .frz { cls := .type "list", data := .seq vs.toArray } (.lst (ns.map V.int)) := fun c u z => by
      by_cases hc : c = a
      · rw [if_pos hc] at z
        exact ⟨hc, (Option.some.inj z).symm⟩
      · rw [if_neg hc] at z
        cases z
    refine ⟨fun c => if c = a then some (.frz { cls := .type "list", data := .seq vs.toArray } (.lst (ns.map V.int))) else none, fun c => ?_, .inl (.inr ⟨_, if_pos rfl⟩), fun c u z => ?_, fun c z => ?_, fun _ => q⟩
    · rcases Decidable.em (c = a) with hc | hc
      · exact .inr ⟨_, _, if_pos hc⟩
      · exact .inl (if_neg hc)
    · obtain ⟨rfl, rfl⟩ := at_ c u z
      exact ⟨ha, by rw [List.length_map]; exact hl, vs, _, rv, ha⟩
    · exact Decidable.byContradiction fun hc => z (if_neg hc)
theorem law_run (KX : K.In s₁.heap) (glob : s₁.heap.Ns mainGlobals mg) (built : s₁.heap.Ns builtinsNs mb) (boot : ∀ y : Str, y ≠ "__name__" → mb y = bootBuiltins y) (lim : s₁.heap.NoLimit) (nogen : s₁.gens = #[])
    (ha : s₁.heap.get? a = some { cls := .type "list", data := .seq vs.toArray }) (hi : IntsAre vs ns) (hl : ns.length ≤ sizeLine) (room : Room k callerA)
    (F : ∀ base : Heap, K.In base → base.Ns mainGlobals mg → FnG P w K mg base k fa fd [x] sp) (bound : BindsTo s₁ fd ⟨[.ref a], []⟩ [(x, .ref a)])
    (meets : ∀ H : Hp, Only H → SqL K H a (ns.map V.int) → sp [.ref a] H fun v _ => v = .bl true) :
    codeAny (model P w) callerA (.call (.ref fa) ⟨[.ref a], []⟩) (fun r s' => r = .ok (.ret (.bool true)) ∧ OldK s₁.heap s'.heap ∧ s'.os = s₁.os ∧ AllBare s'.gens) s₁ := by
  obtain ⟨H, E⟩ := entry (P := P) (w := w) KX ha hi hl
  have untracked : ∀ c o, s₁.heap.get? c = some o → (∀ its n, o.data ≠ .seq its n) → H c = none := fun c o e hd => by
    cases q : H c with
    | none => rfl
    | some u =>
      obtain rfl := E.just c (by rw [q]; simp)
      exact absurd rfl (hd _ _ |> fun h => by rw [ha] at e; cases e; exact h)
  have nsB : ∀ {c : Addr} {m : Str → Option Value}, s₁.heap.Ns c m → (hidT s₁.heap H).Ns c m := fun {c m} ⟨o, es, ep, e, d, r⟩ =>
    ⟨o, es, ep, hidT_get e (untracked c o e fun its n z => by rw [d] at z; cases z), d, r⟩
  have kinB : K.In (hidT s₁.heap H) := fun c o e => hidT_get (KX c o e) (by
    cases q : H c with
    | none => rfl
    | some u =>
      have ec := E.just c (by rw [q]; simp)
      rw [ec] at q e
      rw [E.unK (by rw [q]; simp)] at e
      cases e)
  have start : Env0 P w K mg (hidT s₁.heap H) callerA [] s₁ H :=
    ⟨rfl, ⟨kinB, nsB glob, ⟨mb, nsB built, boot⟩, lim.imp fun mc h => ⟨nsB h.1, h.2⟩⟩, fun c o e => of_hidT e, Nat.le_of_eq (hidT_size _ _), trivial, fun c hc => (nomatch (show c ∈ ([] : List Addr) from hc)), E.hok, .of_eq nogen⟩
  have ran := (F _ kinB (nsB glob)).run callerA [] s₁ H ⟨[.ref a], []⟩ [.ref a] [.ref a] _ room rfl start bound (.cons rfl .nil) (meets H E.only E.seq)
  refine codeAny_mono ran fun r s' done => ?_
  rcases r with e | fl
  · exact False.elim done
  · cases fl <;> first | exact False.elim done | skip
    rename_i u
    obtain ⟨v, H', hos, hbare, un, hok', rel, hv⟩ := done
    obtain rfl : v = .bl true := hv
    obtain rfl : u = Value.bool true := rel
    refine ⟨rfl, OldK.of_keep fun c o e => ?_, hos, hbare⟩
    rcases E.only c with z | ⟨ob, xs, z⟩
    · exact un.keep c o e z (fun m => (nomatch (show c ∈ ([] : List Addr) from m))) (fun m => by simp at m)
    · have kept := (hok' c _ (un.frzs c ob _ z)).1
      have was := (E.hok c _ z).1
      rw [was] at e
      cases e
      exact kept
end
/-! ### the law's def from its Mini program -/
theorem spD_law {K : PySem.W.Frag} {df : Df} {x : Str} {sem : List D → Out (D × List D)} {H : Hp} {a : Addr} {ns : List Int} {os : List D} (hps : df.ps = [x]) (hms : df.ms = [0]) (hO : Only H) (q : SqL K H a (ns.map V.int))
    (h : sem [.list (ns.map .int)] = .ok (.bool true, os)) : spD K df sem [.ref a] H fun v _ => v = .bl true := by
  have allInt : ∀ (N : Addr → Prop) (l : List Int), Reps K N H (l.map PyData.int) (l.map V.int) := fun N l => by
    induction l with
    | nil => rfl
    | cons i l ih => exact ⟨.int i, _, rfl, rfl, ih⟩
  have rep : Rep K (NN (fun _ => []) fun _ => False) H (.list (ns.map .int)) (.ref a) := by
    refine ⟨a, _, rfl, ?_, allInt _ ns⟩
    rcases q with q | q
    · refine .inl ⟨q, ?_⟩
      rintro (⟨_, h⟩ | h)
      · cases h
      · exact h
    · exact .inr (.inr q)
  refine ⟨fun _ => False, [.list (ns.map .int)], fun _ => [], ?_, by rw [hms]; rfl, by rw [hps]; rfl, by
    rw [h]
    intro v H' ρ' O' as _ _ _ ow _ _ _
    have := ((own_flat (by rfl)).mp ow).2
    exact this⟩
  rw [hms]
  refine ⟨trivial, rfl, fun i n d e => ?_, fun _ _ => rfl, fun _ _ _ h => (nomatch h), fun _ => List.nodup_nil, fun _ _ h => (nomatch h), fun _ h => h.elim⟩
  cases i with
  | succ i => cases e
  | zero =>
    cases e
    exact ⟨_, rfl, rfl, rep⟩

/-! ### facts of the head -/
def preB (gb : List (Str × Value)) (K : PySem.W.Frag) : Bool := gb.all fun p => He.eqO (PySem.W.nsIn K mainGlobals p.1) (some (some p.2))
abbrev AlM : Type := Bool × He.AlD
def obsK (gb : List (Str × Value)) (fa : List He.Fa) (fn : List He.DefD) (K : PySem.W.Frag) : AlM := (preB gb K, He.obsD fa fn K)
def obsM (n : Nat) (gb : List (Str × Value)) (fa : List He.Fa) (fn : List He.DefD) (g : Addr → Option Obj) : AlM := obsK gb fa fn (He.frG g (He.asD g n))
def SaysM (gb : List (Str × Value)) (fa : List He.Fa) (fn : List He.DefD) (K : PySem.W.Frag) : Prop := obsK gb fa fn K = (true, He.valD fn)
def hookM (n : Nat) (gb : List (Str × Value)) (fa : List He.Fa) (fn : List He.DefD) : PySem.W.Hook where
  α := AlM
  obs := fun s => obsM n gb fa fn s.heap.get?
  val := fun _ => (true, He.valD fn)
  says := fun _ h => ∃ K : PySem.W.Frag, K.In h ∧ SaysM gb fa fn K
  of := fun _ _ e => ⟨_, He.frG_in, e⟩
  keeps := fun _ _ _ ⟨K, hK, c⟩ kept => ⟨K, PySem.W.Frag.In.keeps hK kept, c⟩
theorem obsM_eq {n : Nat} {gb : List (Str × Value)} {fa : List He.Fa} {fn : List He.DefD} {g : Addr → Option Obj} {s : Shared} (h : ∀ c, g c = s.heap.get? c) : obsM n gb fa fn g = (hookM n gb fa fn).obs s := by
  rw [show g = s.heap.get? from funext h] <;> rfl
def faOf (GC : List (Str × Int)) (dfs : List Df) : List He.Fa := dfs.map (fun d => .glo d.nm) ++ (bltNames.map .free ++ GC.map fun p => .int p.1 p.2)
section
variable {gb : List (Str × Value)} {fa : List He.Fa} {fn : List He.DefD} {K : PySem.W.Frag} {h : Heap} {mg : Str → Option Value} {C : CkP} {dfs : List Df}
theorem SaysM.pre (c : SaysM gb fa fn K) {p : Str × Value} (hp : p ∈ gb) (X : K.In h) (G : h.Ns mainGlobals mg) : mg p.1 = some p.2 :=
  PySem.W.mg_of X G (He.eqO_ok (List.all_eq_true.mp (congrArg (fun z : AlM => z.1) c) p hp))
theorem SaysM.d (c : SaysM gb fa fn K) : He.SaysD fa fn K := congrArg (fun z : AlM => z.2) c
theorem SaysM.has (c : SaysM gb fa fn K) {f : He.Fa} (hf : f ∈ fa) : f.ok K = true := by
  have c1 : ((fa.all fun f => f.ok K) && fn.all fun d => d.ok K) = true := congrArg (fun z : He.AlD => z.1) c.d
  exact List.all_eq_true.mp (Bool.and_eq_true_iff.mp c1).1 f hf
/-- each def of the text is its Mini def's -/
structure One (C : CkP) (df : Df) (d : He.DefD) : Prop where
  at_ : d.at_ = (df.nm, none)
  ck : ckDf C df d.scope d.body = true
  bind : ∀ (K : PySem.W.Frag) (fd : FuncData) (a : Addr), FunD K d.name d.qual d.params d.body d.scope (d.dvs K) (d.kws K) a fd → BindOk K fd df
theorem bindOk_of {df : Df} {x qual : Str} {params : Arguments} {body : List Stmt} {scope : Scope} {kws : List (Str × V)} {fd : FuncData} {a : Addr} (F : FunD K x qual params body scope [] kws a fd)
    (h : ∀ (kV doc pm : Value) (an : Option Addr) (cdv ct : Value), ∀ p ∈ df.kws, ∀ us ws : List Value, us.length = p.1 → ws.length = p.2.1.length → bindArgs (PySem.W.fnOf x qual params body scope .none kV doc pm an cdv ct) ⟨us, p.2.1.zip ws⟩ = pure (df.ps.zip (permL (us ++ ws) p.2.2))) : BindOk K fd df := by
  obtain ⟨oc, od, dV, kV, doc, pm, an, cdv, ct, osl, rfl, _, _, hD, _⟩ := F.ex
  intro p hp s us ws _ h1 h2
  rcases hD with ⟨_, rfl⟩ | ⟨e, _⟩
  · exact .of_eq (h kV doc pm an cdv ct p hp us ws h1 h2)
  · exact absurd rfl e
def allOk (C : CkP) : List Df → List He.DefD → Prop
  | [], _ => True
  | df :: r, d :: s => One C df d ∧ allOk C r s
  | _ :: _, [] => False
theorem allOk.get : ∀ {dfs : List Df} {fn : List He.DefD} {i : Nat} {df : Df}, allOk C dfs fn → dfs[i]? = some df → ∃ d, fn[i]? = some d ∧ One C df d
  | [], _, _, _, _, e => by simp at e
  | df :: r, [], _, _, h, _ => h.elim
  | df :: r, d :: s, 0, _, h, e => by
    simp at e
    subst e
    exact ⟨d, rfl, h.1⟩
  | df :: r, d :: s, i + 1, _, h, e => by simpa using allOk.get (i := i) h.2 (by simpa using e)
theorem lawE_of {GC : List (Str × Int)} (hP : ∀ f, C.P f = dfs[f]?) (hGC : C.GC = GC) (hg : C.gcd = true → (("gcd" : Str), Value.builtin "math.gcd") ∈ gb) (all : allOk C dfs fn) (c : SaysM gb (faOf GC dfs) fn K) (X : K.In h) (G : h.Ns mainGlobals mg) : LawE C K mg := by
  refine ⟨fun x hx => He.free_ok X G (c.has ?_), fun e => c.pre (hg e) X G, fun p hp => He.int_ok X G (c.has ?_), fun f df e => ?_⟩
  · exact List.mem_append_right _ (List.mem_append_left _ (List.mem_map_of_mem hx))
  · rw [hGC] at hp
    exact List.mem_append_right _ (List.mem_append_right _ (List.mem_map.mpr ⟨p, hp, rfl⟩))
  · rw [hP] at e
    obtain ⟨d, e2, o⟩ := all.get e
    obtain ⟨fd, F⟩ := c.d.def_ f e2
    have ea : He.fAd K d.at_ = He.ga K df.nm := by rw [o.at_]; rfl
    refine ⟨_, _, _, _, _, _, _, _, fd, He.glo_ok X G (c.has (List.mem_append_left _ (List.mem_map.mpr ⟨df, List.mem_of_getElem? e, rfl⟩))), ea ▸ F, o.bind K fd _ F, o.ck⟩
end
/-- THE END of a law: its Mini program says True of every script -/
theorem walk_mini {l : PySem.W.OpenLaw} {n k : Nat} {q : Program} {loose : List Str} {XP : (Str → Option Value) → Heap → Prop} {d : DefRec} {x : Str} {gb : List (Str × Value)} {fn : List He.DefD} {C : CkP} {dfs : List Df} {GC : List (Str × Int)} {i hk : Nat} {df : Df}
    (hn : l.most = some n) (hn2 : n ≤ sizeLine) (hdf : d.params.defaults = []) (room : Room k callerA) (fu : Nat)
    (hP : ∀ f, C.P f = dfs[f]?) (hGC : C.GC = GC) (hg : C.gcd = true → (("gcd" : Str), Value.builtin "math.gcd") ∈ gb) (all : allOk C dfs fn)
    (hi : dfs[i]? = some df) (hnm : d.name = df.nm) (hps : df.ps = [x]) (hms : df.ms = [0]) (hkw : (1, [], [0]) ∈ df.kws)
    (val : ∀ ns : List Int, ns.length ≤ n → ∃ os, sem C.P fu k i [.list (ns.map .int)] = .ok (.bool true, os)) :
    PySem.W.WalkO q loose XP (hookM hk gb (faOf GC dfs) fn).says l.row.toRowW d [] (fun f vs => PySem.call f vs) := by
  refine Att.attach_call hn hdf fun w s₀ s₁ mg mb fa o pm cd doc a vs ns Gr Y ho hd hcd hmg hobj hints hlen hgen => ?_
  obtain ⟨K, KX, c⟩ := Y
  have L : LawE C K mg := lawE_of hP hGC hg all c KX Gr.T.g
  obtain ⟨x', qual, params, body, scope, dvs, kws, a', fd, h1, h2, h3, h4⟩ := L.defs i df (by rw [hP]; exact hi)
  have ea : a' = fa := by
    rw [← hnm, hmg] at h1
    cases h1
    rfl
  subst ea
  have b := h3 _ hkw s₁ [.ref a] [] KX rfl rfl
  rw [hps] at b
  refine law_run KX Gr.T.g Gr.T.b Gr.T.builtins Gr.T.nolimit hgen hobj hints (Nat.le_trans hlen hn2) room (x := x) (sp := spD K df (sem C.P fu k i)) (fun base hb hm => ?_) b fun H hO hS => ?_
  · rw [← hps]
    exact allG L fu k i df x' qual params body scope dvs kws a' fd (by rw [hP]; exact hi) h2 h4
  · obtain ⟨os, e⟩ := val ns hlen
    exact spD_law hps hms hO hS e
end Mini

set_option Elab.async false
set_option linter.all false
set_option maxRecDepth 100000
set_option maxHeartbeats 1000000
/-! Mini: running a Mini program by rewriting. -/
namespace Mini.W
open PySem Mini
abbrev D := PyData
theorem sOk {α : Type} {a : α} {P : α → Prop} : (Out.ok a).sat P ↔ P a := Iff.rfl
theorem sat_bad {α : Type} {P : α → Prop} : (Out.bad : Out α).sat P ↔ False := Iff.rfl
theorem sat_ite {α : Type} {c : Prop} [Decidable c] {a b : Out α} {P : α → Prop} : (if c then a else b).sat P ↔ ((c → a.sat P) ∧ (¬ c → b.sat P)) := by
  by_cases h : c <;> simp [h]
theorem sat_ite1 {α : Type} {c : Prop} [Decidable c] {a : Out α} {P : α → Prop} : (if c then a else .bad).sat P ↔ (c ∧ a.sat P) := by
  by_cases h : c <;> simp [h, sat_bad]
theorem itp {c : Prop} [Decidable c] {a b : Prop} : (if c then a else b) ↔ ((c → a) ∧ (¬ c → b)) := by
  by_cases h : c <;> simp [h]
theorem sat_imp {α : Type} {m : Out α} {P Q : α → Prop} (h : m.sat P) (k : ∀ a, P a → Q a) : m.sat Q := Out.sat_mono h fun a _ => k a
theorem sEx {α : Type} {m : Out α} {P : α → Prop} (h : m.sat P) : ∃ a, m = .ok a ∧ P a := by
  cases m with
  | ok a => exact ⟨a, rfl, h⟩
  | bad => exact h.elim
/-! ### places -/
theorem getS_c0 {a : Slot} {l : Rho} : getS (a :: l) 0 = a := rfl
theorem getS_cs {a : Slot} {l : Rho} {n : Nat} : getS (a :: l) (n + 1) = getS l n := by simp [getS]
theorem own_c0 {n : Nat} {d : D} {l : Rho} : ownD (some (n, d) :: l) n 0 = .ok d := by simp [ownD, getS_c0]
theorem own_cs {a : Slot} {l : Rho} {n i : Nat} : ownD (a :: l) n (i + 1) = ownD l n i := by simp [ownD, getS_cs]
theorem set_c0 {a x : Slot} {l : Rho} : (a :: l).set 0 x = x :: l := rfl
theorem set_cs {a x : Slot} {l : Rho} {n : Nat} : (a :: l).set (n + 1) x = a :: l.set n x := rfl
/-! ### dicts -/
theorem getD_eq {k s : Str} {d : D} {r : List (D × D)} (h : s = k) : getD k ((.str s, d) :: r) = some d := by
  unfold getD isKey
  simp [h]
theorem getD_ne {k s : Str} {d : D} {r : List (D × D)} (h : s ≠ k) : getD k ((.str s, d) :: r) = getD k r := by
  conv => lhs; unfold getD isKey
  simp [h]
theorem putD_eq {k s : Str} {d x : D} {r : List (D × D)} (h : s = k) : putD ((.str s, d) :: r) k x = (.str s, x) :: r := by
  unfold putD isKey
  simp [h]
theorem putD_ne {k s : Str} {d x : D} {r : List (D × D)} (h : s ≠ k) : putD ((.str s, d) :: r) k x = (.str s, d) :: putD r k x := by
  conv => lhs; unfold putD isKey
  simp [h]
/-! ### expressions -/
section
variable {G : Defs} {ρ : Rho} {Q : D × Rho → Prop} {a b c m es ks it e : ME} {i n r f : Nat} {R : D → Prop} {T : Bool → Prop}
theorem e_var : (ev G (.var i) ρ).sat Q ↔ (ownD ρ 0 i).sat fun d => Q (d, ρ) := by simp only [ev, Out.sat_bind, sOk]
theorem e_bor : (ev G (.bor n i) ρ).sat Q ↔ (ownD ρ n i).sat fun d => Q (d, ρ) := by simp only [ev, Out.sat_bind, sOk]
theorem e_iou : (ev G (.iou n i) ρ).sat Q ↔ (ownD ρ n i).sat fun d => Q (d, ρ) := by simp only [ev, Out.sat_bind, sOk]
theorem e_mov : (ev G (.mov n i) ρ).sat Q ↔ (ownD ρ n i).sat fun d => Q (d, ρ.set i none) := by simp only [ev, Out.sat_bind, sOk]
/-- what a place that is given up holds -/
def frzD (s : Slot) : Out D := match s with
  | some (n, d) => if noDict n d = true then .ok d else .bad
  | none => .bad
theorem e_frz : (ev G (.frz i) ρ).sat Q ↔ (frzD (getS ρ i)).sat fun d => Q (d, ρ.set i (some (0, d))) := by
  simp only [ev, frzD]
  cases getS ρ i with
  | none => exact Iff.rfl
  | some p => simp only [sat_ite1, sOk]
theorem frz_some {d : D} : (frzD (some (n, d))).sat R ↔ noDict n d = true ∧ R d := by simp only [frzD, sat_ite1, sOk]
theorem e_cst {d : D} : (ev G (.cst d) ρ).sat Q ↔ Q (d, ρ) := by simp only [ev, sOk]
theorem e_glb {x : Str} {j : Int} : (ev G (.glb x j) ρ).sat Q ↔ Q (.int j, ρ) := by simp only [ev, sOk]
theorem e_flat : (ev G (.flat a) ρ).sat Q ↔ (ev G a ρ).sat fun r => isFlat r.1 = true ∧ Q r := by
  simp only [ev, Out.sat_bind, sat_ite1, sOk]
theorem e_op1 {o : Op1} : (ev G (.op1 o a) ρ).sat Q ↔ (ev G a ρ).sat fun r => (ev1 o r.1).sat fun x => Q (x, r.2) := by simp only [ev, Out.sat_bind, sOk]
theorem e_op2 {o : Op2} : (ev G (.op2 o a b) ρ).sat Q ↔ (ev G a ρ).sat fun r => (ev G b r.2).sat fun s => (ev2 o r.1 s.1).sat fun z => Q (z, s.2) := by simp only [ev, Out.sat_bind, sOk]
/-- a chain goes on -/
def chnB (d : D) (P : Prop) (R : D → Prop) : Prop := match d with
  | .bool true => P
  | .bool false => R (.bool false)
  | _ => False
theorem e_chn {o o' : Op2} : (ev G (.chn o o' a b c) ρ).sat Q ↔ (ev G a ρ).sat fun r => (ev G b r.2).sat fun s => (ev2 o r.1 s.1).sat fun z => chnB z ((ev G c s.2).sat fun w => (ev2 o' s.1 w.1).sat fun u => Q (u, w.2)) fun d => Q (d, s.2) := by
  simp only [ev, Out.sat_bind]
  refine iff_of_eq (congrArg _ ?_)
  funext r
  refine congrArg _ ?_
  funext s
  refine congrArg _ ?_
  funext z
  unfold chnB
  split <;> simp only [Out.sat_bind, sOk, sat_bad]
theorem chn_b {p : Prop} [Decidable p] {P : Prop} {R : D → Prop} : chnB (.bool (decide p)) P R ↔ (p → P) ∧ (¬ p → R (.bool false)) := by
  by_cases h : p <;> simp [h, chnB]
theorem e_and : (ev G (.and a b) ρ).sat Q ↔ (ev G a ρ).sat fun r => (truth r.1).sat fun t => (t = true → (ev G b r.2).sat Q) ∧ (t = false → Q r) := by
  simp only [ev, Out.sat_bind, sat_ite, sOk, Bool.not_eq_true]
theorem e_or : (ev G (.or a b) ρ).sat Q ↔ (ev G a ρ).sat fun r => (truth r.1).sat fun t => (t = true → Q r) ∧ (t = false → (ev G b r.2).sat Q) := by
  simp only [ev, Out.sat_bind, sat_ite, sOk, Bool.not_eq_true]
theorem e_ife : (ev G (.ife c a b) ρ).sat Q ↔ (ev G c ρ).sat fun r => (truth r.1).sat fun t => (t = true → (ev G a r.2).sat Q) ∧ (t = false → (ev G b r.2).sat Q) := by
  simp only [ev, Out.sat_bind, sat_ite, Bool.not_eq_true]
/-- the items of a list -/
def lstB (d : D) (R : List D → Prop) : Prop := match d with
  | .list l => R l
  | _ => False
theorem lst_l {l : List D} {R : List D → Prop} : lstB (.list l) R ↔ R l := Iff.rfl
theorem e_tup : (ev G (.tup es) ρ).sat Q ↔ (ev G es ρ).sat fun r => lstB r.1 fun ds => Q (.tuple ds, r.2) := by
  simp only [ev, Out.sat_bind]
  refine iff_of_eq (congrArg _ ?_)
  funext r
  unfold lstB
  split <;> rename_i h
  · rw [h]; rfl
  · split <;> first | rfl | (rename_i h2; exact absurd h2 (h _))
theorem e_lst : (ev G (.lst es) ρ).sat Q ↔ (ev G es ρ).sat Q := by simp only [ev]
theorem e_nil : (ev G .nil ρ).sat Q ↔ Q (.list [], ρ) := by simp only [ev, sOk]
theorem e_cons : (ev G (.cons e es) ρ).sat Q ↔ (ev G e ρ).sat fun r => (ev G es r.2).sat fun s => lstB s.1 fun ds => Q (.list (r.1 :: ds), s.2) := by
  simp only [ev, Out.sat_bind]
  refine iff_of_eq (congrArg _ ?_)
  funext r
  refine congrArg _ ?_
  funext s
  unfold lstB
  split <;> rename_i h
  · rw [h]; rfl
  · split <;> first | rfl | (rename_i h2; exact absurd h2 (h _))
theorem e_sub : (ev G (.sub a b) ρ).sat Q ↔ (ev G a ρ).sat fun r => (ev G b r.2).sat fun s => (evSub r.1 s.1).sat fun z => Q (z, s.2) := by simp only [ev, Out.sat_bind, sOk]
theorem e_key {k : Str} : (ev G (.key a k) ρ).sat Q ↔ (ev G a ρ).sat fun r => (evKey r.1 k).sat fun z => Q (z, r.2) := by simp only [ev, Out.sat_bind, sOk]
/-- bounds of a slice -/
def ints2 (x y : D) (R : Option Int → Option Int → Prop) : Prop := match asInt x, asInt y with
  | some l, some h => R l h
  | _, _ => False
theorem e_slc : (ev G (.slc a b c) ρ).sat Q ↔ (ev G a ρ).sat fun r => (ev G b r.2).sat fun s => (ev G c s.2).sat fun t => ints2 s.1 t.1 fun l h => (evSlc r.1 l h).sat fun z => Q (z, t.2) := by
  simp only [ev, Out.sat_bind]
  refine iff_of_eq (congrArg _ ?_)
  funext r
  refine congrArg _ ?_
  funext s
  refine congrArg _ ?_
  funext t
  unfold ints2
  cases asInt s.1 with
  | none => rfl
  | some l =>
    cases asInt t.1 with
    | none => rfl
    | some h => simp only [Out.sat_bind, sOk]
theorem e_nop : (ev G .nop ρ).sat Q ↔ Q (.none, ρ) := by simp only [ev, sOk]
theorem e_rev : (ev G (.rev a) ρ).sat Q ↔ (ev G a ρ).sat fun r => lstB r.1 fun l => Q (.list l.reverse, r.2) := by
  simp only [ev, Out.sat_bind]
  refine iff_of_eq (congrArg _ ?_)
  funext r
  unfold lstB
  split <;> rename_i h
  · rw [h]; rfl
  · split <;> first | rfl | (rename_i h2; exact absurd h2 (h _))
theorem e_blt {bb : Blt} : (ev G (.blt bb es) ρ).sat Q ↔ (ev G es ρ).sat fun r => lstB r.1 fun ds => (evBlt bb ds).sat fun z => Q (z, r.2) := by
  simp only [ev, Out.sat_bind]
  refine iff_of_eq (congrArg _ ?_)
  funext r
  unfold lstB
  split <;> rename_i h
  · rw [h]; simp only [Out.sat_bind, sOk]
  · split <;> first | rfl | (rename_i h2; exact absurd h2 (h _))
theorem e_call {io : List (Option (Nat × Nat))} {kw : List Nat} : (ev G (.call f r io es ks kw) ρ).sat Q ↔ (ev G es ρ).sat fun r => (ev G ks r.2).sat fun s => lstB r.1 fun ds => lstB s.1 fun cs =>
    (refresh s.2 io (permL (ds ++ cs) kw)).sat fun zs => (G f zs).sat fun q => (putBack s.2 io q.2).sat fun ρ3 => Q (q.1, ρ3) := by
  simp only [ev, Out.sat_bind]
  refine iff_of_eq (congrArg _ ?_)
  funext r
  refine congrArg _ ?_
  funext s
  unfold lstB
  split <;> rename_i h
  · rename_i h2
    rw [h, h2]
    simp only [Out.sat_bind, sOk]
  · split
    · split
      · rename_i h1 _ _ h2; exact absurd h2 (h _ _ h1)
      · rfl
    · rfl
/-- one item of a comprehension -/
def compB (G : Defs) (own : List (Str × Nat)) (t : Tgt) (c e : ME) (d : D) (ρ : Rho) : Out (Option D × Rho) := do
  let ρa ← asgT t d ρ
  let (b, ρb) ← ev G c ρa
  let t ← truth b
  if t = true then do
    let (x, ρc) ← ev G e ρb
    .ok (some x, wipeR ρc (own.map (·.2)))
  else .ok (none, wipeR ρb (own.map (·.2)))
/-- what is walked -/
def itB (d : D) (R : List D → Prop) : Prop := match iterOf d with
  | some l => R l
  | none => False
theorem it_l {l : List D} {R : List D → Prop} : itB (.list l) R ↔ R l := Iff.rfl
theorem it_t {l : List D} {R : List D → Prop} : itB (.tuple l) R ↔ R l := Iff.rfl
theorem e_comp {own : List (Str × Nat)} {t : Tgt} : (ev G (.comp own t it c e) ρ).sat Q ↔ (ev G it ρ).sat fun r => itB r.1 fun ds => (noOwn r.2 (own.map (·.2)) = true ∧ ds.length ≤ LIM) ∧
    (compL (compB G own t c e) ds (wipeR r.2 (own.map (·.2)))).sat fun s => Q (.list s.1, s.2) := by
  simp only [ev, Out.sat_bind]
  refine iff_of_eq (congrArg _ ?_)
  funext r
  unfold itB
  cases iterOf r.1 with
  | none => rfl
  | some ds =>
    simp only [sat_ite1, sOk]
    rfl
theorem e_val : (ev G (.val a) ρ).sat Q ↔ (ev G a ρ).sat Q := by simp only [ev]
/-- an int -/
def intB (d : D) (R : Int → Prop) : Prop := match d with
  | .int l => R l
  | _ => False
theorem int_i {j : Int} {R : Int → Prop} : intB (.int j) R ↔ R j := Iff.rfl
theorem e_rng1 : (ev G (.rng1 a) ρ).sat Q ↔ (ev G a ρ).sat fun r => intB r.1 fun j => rngOk 0 j = true ∧ Q (.list (rangeD 0 j), r.2) := by
  simp only [ev, Out.sat_bind]
  refine iff_of_eq (congrArg _ ?_)
  funext r
  unfold intB
  split <;> rename_i h
  · rw [h]; simp only [sat_ite1, sOk]
  · split <;> first | rfl | (rename_i h2; exact absurd h2 (h _))
theorem e_rng2 : (ev G (.rng2 a b) ρ).sat Q ↔ (ev G a ρ).sat fun r => (ev G b r.2).sat fun s => intB r.1 fun i => intB s.1 fun j => rngOk i j = true ∧ Q (.list (rangeD i j), s.2) := by
  simp only [ev, Out.sat_bind]
  refine iff_of_eq (congrArg _ ?_)
  funext r
  refine congrArg _ ?_
  funext s
  unfold intB
  split <;> rename_i h
  · rename_i h2
    rw [h, h2]; simp only [sat_ite1, sOk]
  · split
    · split
      · rename_i h1 _ _ h2; exact absurd h2 (h _ _ h1)
      · rfl
    · rfl
/-- the two that are walked together -/
def zipB (x y : D) (R : List (D × D) → Prop) : Prop := match x, y with
  | .list l, .list m => R (l.zip m)
  | .tuple l, .tuple m => R (l.zip m)
  | _, _ => False
theorem zip_l {l k : List D} {R : List (D × D) → Prop} : zipB (.list l) (.list k) R ↔ R (l.zip k) := Iff.rfl
theorem zip_t {l k : List D} {R : List (D × D) → Prop} : zipB (.tuple l) (.tuple k) R ↔ R (l.zip k) := Iff.rfl
theorem e_zip : (ev G (.zip a b) ρ).sat Q ↔ (ev G a ρ).sat fun r => (ev G b r.2).sat fun s => zipB r.1 s.1 fun l => Q (.list (l.map fun p => .tuple [p.1, p.2]), s.2) := by
  simp only [ev, Out.sat_bind]
  refine iff_of_eq (congrArg _ ?_)
  funext r
  refine congrArg _ ?_
  funext s
  unfold zipB
  split <;> rename_i h
  · rename_i h2
    rw [h, h2]; rfl
  · rename_i h2
    rw [h, h2]; rfl
  · rename_i h2
    split
    · rename_i h3 h4; first | exact absurd h4 (h _ _ h3) | exact absurd h4 (h2 _ _ h3)
    · rename_i h3 h4; first | exact absurd h4 (h2 _ _ h3) | exact absurd h4 (h _ _ h3)
    · rfl
theorem e_pop {k : Option Str} : (ev G (.pop n i k) ρ).sat Q ↔ (ownD ρ n i).sat fun d => (popPath k d).sat fun p => isFlat p.1 = true ∧ Q (p.1, ρ.set i (some (n, p.2))) := by
  simp only [ev, Out.sat_bind, sat_ite1, sOk]
theorem e_dsp {ks : List Str} : (ev G (.dsp ks es) ρ).sat Q ↔ (ev G es ρ).sat fun r => lstB r.1 fun ds => dspOk es ds = true ∧ Q (.dict ((ks.map PyData.str).zip ds), r.2) := by
  simp only [ev, Out.sat_bind]
  refine iff_of_eq (congrArg _ ?_)
  funext r
  unfold lstB
  split <;> rename_i h
  · rw [h]; simp only [sat_ite1, sOk]
  · split <;> first | rfl | (rename_i h2; exact absurd h2 (h _))
/-! ### operations -/
theorem t_b {x : Bool} : (truth (.bool x)).sat T ↔ T x := Iff.rfl
theorem t_l {l : List D} : (truth (.list l)).sat T ↔ T (!l.isEmpty) := Iff.rfl
theorem t_i {j : Int} : (truth (.int j)).sat T ↔ T (j != 0) := Iff.rfl
theorem o_neg {j : Int} : (ev1 .neg (.int j)).sat R ↔ R (.int (-j)) := Iff.rfl
theorem o_not {d : D} : (ev1 .not d).sat R ↔ (truth d).sat fun t => R (.bool (!t)) := by simp only [ev1, Out.sat_bind, sOk]
theorem o_add {j k : Int} : (ev2 .add (.int j) (.int k)).sat R ↔ R (.int (j + k)) := Iff.rfl
theorem o_sub {j k : Int} : (ev2 .sub (.int j) (.int k)).sat R ↔ R (.int (j - k)) := Iff.rfl
theorem o_mul {j k : Int} : (ev2 .mul (.int j) (.int k)).sat R ↔ mulOk j k = true ∧ R (.int (j * k)) := by simp only [ev2, sat_ite1, sOk]
theorem o_fdv {j k : Int} : (ev2 .fdv (.int j) (.int k)).sat R ↔ (0 < k ∧ k.natAbs.log2 < 9000) ∧ R (.int (j / k)) := by simp only [ev2, sat_ite1, sOk]
theorem o_mod {j k : Int} : (ev2 .mod (.int j) (.int k)).sat R ↔ 0 < k ∧ R (.int (j % k)) := by simp only [ev2, sat_ite1, sOk]
theorem o_pow {j k : Int} : (ev2 .pow (.int j) (.int k)).sat R ↔ (0 ≤ k ∧ k ≤ 1000000 ∧ j.natAbs < 2 ^ 64) ∧ R (.int (j ^ k.toNat)) := by simp only [ev2, sat_ite1, sOk]
theorem o_lt {j k : Int} : (ev2 .lt (.int j) (.int k)).sat R ↔ R (.bool (decide (j < k))) := Iff.rfl
theorem o_le {j k : Int} : (ev2 .le (.int j) (.int k)).sat R ↔ R (.bool (decide (j ≤ k))) := Iff.rfl
theorem o_gt {j k : Int} : (ev2 .gt (.int j) (.int k)).sat R ↔ R (.bool (decide (k < j))) := Iff.rfl
theorem o_ge {j k : Int} : (ev2 .ge (.int j) (.int k)).sat R ↔ R (.bool (decide (k ≤ j))) := Iff.rfl
theorem o_eq {x y : D} : (ev2 .eq x y).sat R ↔ (SeqAt.shaped x = true ∧ SeqAt.shaped y = true) ∧ R (.bool (PyData.eqv x y)) := by simp only [ev2, sat_ite1, sOk]
theorem o_ne {x y : D} : (ev2 .ne x y).sat R ↔ (SeqAt.shaped x = true ∧ SeqAt.shaped y = true) ∧ R (.bool (!PyData.eqv x y)) := by simp only [ev2, sat_ite1, sOk]
theorem o_addL {l k : List D} : (ev2 .add (.list l) (.list k)).sat R ↔ l.length + k.length ≤ LIM ∧ R (.list (l ++ k)) := by simp only [ev2, sat_ite1, sOk]
theorem o_inn {x : D} {l : List D} : (ev2 .inn x (.list l)).sat R ↔ (isFlat x = true ∧ l.all isFlat = true) ∧ R (.bool (inD x l)) := by simp only [ev2, sat_ite1, sOk]
theorem o_nin {x : D} {l : List D} : (ev2 .nin x (.list l)).sat R ↔ (isFlat x = true ∧ l.all isFlat = true) ∧ R (.bool (!inD x l)) := by simp only [ev2, sat_ite1, sOk]
theorem o_isn {x : D} : (ev2 .isn x .none).sat R ↔ R (.bool (match x with | .none => true | _ => false)) := by cases x <;> exact Iff.rfl
theorem o_isnn {x : D} : (ev2 .isnn x .none).sat R ↔ R (.bool (match x with | .none => false | _ => true)) := by cases x <;> exact Iff.rfl
theorem o_subL {l : List D} {j : Int} : (evSub (.list l) (.int j)).sat R ↔ ∃ d, L2.atI l j = some d ∧ R d := by
  simp only [evSub]
  cases L2.atI l j with
  | none => simp [sat_bad]
  | some d => simp [sOk]
theorem o_subT {l : List D} {j : Int} : (evSub (.tuple l) (.int j)).sat R ↔ ∃ d, L2.atI l j = some d ∧ R d := by
  simp only [evSub]
  cases L2.atI l j with
  | none => simp [sat_bad]
  | some d => simp [sOk]
theorem o_key {l : List (D × D)} {k : Str} {d : D} (h : getD k l = some d) : (evKey (.dict l) k).sat R ↔ R d := by simp only [evKey, h, sOk]
theorem o_len {l : List D} : (evBlt .len [.list l]).sat R ↔ R (.int l.length) := Iff.rfl
theorem o_lenT {l : List D} : (evBlt .len [.tuple l]).sat R ↔ R (.int l.length) := Iff.rfl
theorem o_tupl {l : List D} : (evBlt .tupl [.list l]).sat R ↔ R (.tuple l) := Iff.rfl
theorem o_list {l : List D} : (evBlt .list [.list l]).sat R ↔ R (.list l) := Iff.rfl
theorem o_int {j : Int} : (evBlt .int [.int j]).sat R ↔ R (.int j) := Iff.rfl
theorem o_abs {j : Int} : (evBlt .abs [.int j]).sat R ↔ R (.int (if j < 0 then -j else j)) := Iff.rfl
theorem o_max {j k : Int} : (evBlt .max2 [.int j, .int k]).sat R ↔ R (.int (if k > j then k else j)) := Iff.rfl
theorem o_min {j k : Int} : (evBlt .min2 [.int j, .int k]).sat R ↔ R (.int (if k < j then k else j)) := Iff.rfl
theorem o_gcd {j k : Int} : (evBlt .gcd [.int j, .int k]).sat R ↔ R (.int ((Nat.gcd j.natAbs k.natAbs : Nat) : Int)) := Iff.rfl
theorem ints_map : ∀ l : List Int, intsOf (l.map .int) = some l
  | [] => rfl
  | i :: l => by simp only [List.map_cons, intsOf, ints_map l, Option.map_some]
theorem bools_map : ∀ l : List Bool, boolsOf (l.map .bool) = some l
  | [] => rfl
  | i :: l => by simp only [List.map_cons, boolsOf, bools_map l, Option.map_some]
theorem o_sum {l : List Int} : (evBlt .sum [.list (l.map .int)]).sat R ↔ R (.int l.sum) := by simp only [evBlt, ints_map, sOk]
theorem o_all {l : List Bool} : (evBlt .all [.list (l.map .bool)]).sat R ↔ R (.bool (l.all id)) := by simp only [evBlt, bools_map, sOk]
theorem o_any {l : List Bool} : (evBlt .any [.list (l.map .bool)]).sat R ↔ R (.bool (l.any id)) := by simp only [evBlt, bools_map, sOk]
theorem o_repr {d : D} : (evBlt .repr [d]).sat R ↔ (d.showable = true ∧ d.hasDict = false ∧ d.depth ≤ 40 ∧ d.shown.length ≤ LIM) ∧ R (.str d.shown) := by simp only [evBlt, evRepr, sat_ite1, sOk]
theorem o_isi {ts : List String} {d : D} (h : ∀ l, d ≠ .dict l) : (evBlt (.isi ts) [d]).sat R ↔ R (.bool (isiD d ts)) := by
  cases d <;> first | exact Iff.rfl | exact absurd rfl (h _)
theorem p_key {k : Str} {kvs : List (D × D)} {l : List D} {S : D × D → Prop} (h : getD k kvs = some (.list l)) : (popPath (some k) (.dict kvs)).sat S ↔ ∃ x, l.getLast? = some x ∧ S (x, .dict (putD kvs k (.list l.dropLast))) := by
  simp only [popPath, evKey, h]
  cases l.getLast? with
  | none => simp [sat_bad]
  | some x => simp [sOk]
/-! ### calls -/
theorem rf_nil {R : List D → Prop} : (refresh ρ [] []).sat R ↔ R [] := Iff.rfl
theorem rf_none {io : List (Option (Nat × Nat))} {d : D} {l : List D} {R : List D → Prop} : (refresh ρ (none :: io) (d :: l)).sat R ↔ (refresh ρ io l).sat fun x => R (d :: x) := by simp only [refresh, Out.sat_bind, sOk]
theorem rf_some {io : List (Option (Nat × Nat))} {d : D} {l : List D} {R : List D → Prop} : (refresh ρ (some (n, i) :: io) (d :: l)).sat R ↔ (ownD ρ n i).sat fun d => (refresh ρ io l).sat fun x => R (d :: x) := by simp only [refresh, Out.sat_bind, sOk]
theorem p_nil {R : Rho → Prop} : (putBack ρ [] []).sat R ↔ R ρ := Iff.rfl
theorem p_none {io : List (Option (Nat × Nat))} {l : List D} {R : Rho → Prop} : (putBack ρ (none :: io) l).sat R ↔ (putBack ρ io l).sat R := by simp only [putBack]
theorem p_some {io : List (Option (Nat × Nat))} {d : D} {l : List D} {R : Rho → Prop} : (putBack ρ (some (n, i) :: io) (d :: l)).sat R ↔ (putBack (ρ.set i (some (n, d))) io l).sat R := by simp only [putBack]
/-! ### targets -/
theorem a_nm {d : D} {R : Rho → Prop} : (asgT (.nm i) d ρ).sat R ↔ R (ρ.set i (some (0, d))) := Iff.rfl
theorem a_tup {t : Tgt} {l : List D} {R : Rho → Prop} : (asgT (.tup t) (.tuple l) ρ).sat R ↔ (asgT t (.list l) ρ).sat R := Iff.rfl
theorem a_nil {R : Rho → Prop} : (asgT .nil (.list []) ρ).sat R ↔ R ρ := Iff.rfl
theorem a_cons {t ts : Tgt} {d : D} {l : List D} {R : Rho → Prop} : (asgT (.cons t ts) (.list (d :: l)) ρ).sat R ↔ (asgT t d ρ).sat fun ρ1 => (asgT ts (.list l) ρ1).sat R := by simp only [asgT, Out.sat_bind]
theorem compB_sat {own : List (Str × Nat)} {t : Tgt} {d : D} {S : Option D × Rho → Prop} : (compB G own t c e d ρ).sat S ↔ (asgT t d ρ).sat fun ρ1 => (ev G c ρ1).sat fun r => (truth r.1).sat fun t =>
    (t = true → (ev G e r.2).sat fun s => S (some s.1, wipeR s.2 (own.map (·.2)))) ∧ (t = false → S (none, wipeR r.2 (own.map (·.2)))) := by
  simp only [compB, Out.sat_bind, sat_ite, sOk, Bool.not_eq_true]
end
/-! ### statements -/
section
variable {G : Defs} {fu : Nat} {ρ : Rho} {Q : Fl × Rho → Prop} {a b : MS} {c e ix it : ME} {i n : Nat}
theorem s_skp : (exS G fu .skp ρ).sat Q ↔ Q (.nx, ρ) := by simp only [exS, sOk]
/-- behind a statement -/
def thenS (G : Defs) (fu : Nat) (b : MS) (Q : Fl × Rho → Prop) : Fl × Rho → Prop
  | (.nx, ρ) => (exS G fu b ρ).sat Q
  | r => Q r
theorem then_nx : thenS G fu b Q (.nx, ρ) ↔ (exS G fu b ρ).sat Q := Iff.rfl
theorem then_rt {d : D} : thenS G fu b Q (.rt d, ρ) ↔ Q (.rt d, ρ) := Iff.rfl
theorem then_bk : thenS G fu b Q (.bk, ρ) ↔ Q (.bk, ρ) := Iff.rfl
theorem then_ct : thenS G fu b Q (.ct, ρ) ↔ Q (.ct, ρ) := Iff.rfl
theorem s_seq : (exS G fu (.seq a b) ρ).sat Q ↔ (exS G fu a ρ).sat (thenS G fu b Q) := by
  simp only [exS, Out.sat_bind]
  refine iff_of_eq (congrArg _ ?_)
  funext r
  obtain ⟨o, ρ'⟩ := r
  cases o <;> simp [thenS, sOk]
theorem s_asg {t : Tgt} : (exS G fu (.asg t e) ρ).sat Q ↔ (ev G e ρ).sat fun r => (asgT t r.1 r.2).sat fun ρ2 => Q (.nx, ρ2) := by simp only [exS, Out.sat_bind, sOk]
theorem s_fre : (exS G fu (.fre n i e) ρ).sat Q ↔ (ev G e ρ).sat fun r => Q (.nx, r.2.set i (some (n, r.1))) := by simp only [exS, Out.sat_bind, sOk]
theorem s_par {ts : List (Nat × Nat)} : (exS G fu (.par ts e) ρ).sat Q ↔ (ev G e ρ).sat fun r => lstB r.1 fun ds => (parSet r.2 ts ds).sat fun ρ2 => Q (.nx, ρ2) := by
  simp only [exS, Out.sat_bind]
  refine iff_of_eq (congrArg _ ?_)
  funext r
  unfold lstB
  split <;> rename_i h
  · rw [h]; simp only [Out.sat_bind, sOk]
  · split <;> first | rfl | (rename_i h2; exact absurd h2 (h _))
theorem ps_nil {R : Rho → Prop} : (parSet ρ [] []).sat R ↔ R ρ := Iff.rfl
theorem ps_cons {ts : List (Nat × Nat)} {d : D} {l : List D} {R : Rho → Prop} : (parSet ρ ((n, i) :: ts) (d :: l)).sat R ↔ (parSet (ρ.set i (some (n, d))) ts l).sat R := by simp only [parSet]
theorem s_exp : (exS G fu (.exp e) ρ).sat Q ↔ (ev G e ρ).sat fun r => Q (.nx, r.2) := by simp only [exS, Out.sat_bind, sOk]
theorem s_ret : (exS G fu (.ret e) ρ).sat Q ↔ (ev G e ρ).sat fun r => Q (.rt r.1, r.2) := by simp only [exS, Out.sat_bind, sOk]
theorem s_rtn : (exS G fu .rtn ρ).sat Q ↔ Q (.rt .none, ρ) := by simp only [exS, sOk]
theorem s_ifs : (exS G fu (.ifs c a b) ρ).sat Q ↔ (ev G c ρ).sat fun r => (truth r.1).sat fun t => (t = true → (exS G fu a r.2).sat Q) ∧ (t = false → (exS G fu b r.2).sat Q) := by
  simp only [exS, Out.sat_bind, sat_ite, Bool.not_eq_true]
theorem s_whl : (exS G fu (.whl c b) ρ).sat Q ↔ (whlN (ev G c) (exS G fu b) fu ρ).sat Q := by simp only [exS]
/-- one turn of a loop -/
def loopB (G : Defs) (fu : Nat) (t : Tgt) (b : MS) (d : D) (ρ : Rho) : Out (Fl × Rho) := do
  let ρa ← asgT t d ρ
  exS G fu b ρa
theorem loopB_sat {t : Tgt} {d : D} : (loopB G fu t b d ρ).sat Q ↔ (asgT t d ρ).sat fun ρ1 => (exS G fu b ρ1).sat Q := by simp only [loopB, Out.sat_bind]
theorem s_lop {t : Tgt} : (exS G fu (.lop t it b) ρ).sat Q ↔ (ev G it ρ).sat fun r => itB r.1 fun ds => (loopL (loopB G fu t b) ds r.2).sat Q := by
  simp only [exS, Out.sat_bind]
  refine iff_of_eq (congrArg _ ?_)
  funext r
  unfold itB
  cases iterOf r.1 with
  | none => rfl
  | some ds => rfl
theorem s_brk : (exS G fu .brk ρ).sat Q ↔ Q (.bk, ρ) := by simp only [exS, sOk]
theorem s_cnt : (exS G fu .cnt ρ).sat Q ↔ Q (.ct, ρ) := by simp only [exS, sOk]
theorem s_nvr : (exS G fu .nvr ρ).sat Q ↔ False := by simp only [exS, sat_bad]
theorem s_app {k : Option Str} : (exS G fu (.app n i k e) ρ).sat Q ↔ (ownD ρ n i).sat fun d0 => (canApp k d0).sat fun _ => (ev G e ρ).sat fun r => (ownD r.2 n i).sat fun d => (appPath k d r.1).sat fun d1 => Q (.nx, r.2.set i (some (n, d1))) := by
  simp only [exS, Out.sat_bind, sOk]
theorem s_set : (exS G fu (.set n i ix e) ρ).sat Q ↔ (ev G e ρ).sat fun r => (ownD r.2 n i).sat fun _ => (ev G ix r.2).sat fun s => (ownD s.2 n i).sat fun d => (setIx d s.1 r.1).sat fun d1 => Q (.nx, s.2.set i (some (n, d1))) := by
  simp only [exS, Out.sat_bind, sOk]
theorem s_setK {k : Str} : (exS G fu (.setK n i k e) ρ).sat Q ↔ (ev G e ρ).sat fun r => (ownD r.2 n i).sat fun d => isFlat r.1 = true ∧ (setKey d k r.1).sat fun d1 => Q (.nx, r.2.set i (some (n, d1))) := by
  simp only [exS, Out.sat_bind, sat_ite1, sOk]
theorem c_lst {l : List D} {R : Unit → Prop} : (canApp none (.list l)).sat R ↔ R () := Iff.rfl
theorem c_key {k : Str} {kvs : List (D × D)} {l : List D} {R : Unit → Prop} (h : getD k kvs = some (.list l)) : (canApp (some k) (.dict kvs)).sat R ↔ R () := by simp only [canApp, h, sOk]
theorem ap_lst {l : List D} {x : D} {R : D → Prop} : (appPath none (.list l) x).sat R ↔ l.length < LIM ∧ R (.list (l ++ [x])) := by simp only [appPath, sat_ite1, sOk]
theorem ap_key {k : Str} {kvs : List (D × D)} {l : List D} {x : D} {R : D → Prop} (h : getD k kvs = some (.list l)) : (appPath (some k) (.dict kvs) x).sat R ↔ l.length < LIM ∧ R (.dict (putD kvs k (.list (l ++ [x])))) := by simp only [appPath, evKey, h, sat_ite1, sOk]
theorem sk_key {k : Str} {kvs : List (D × D)} {x y : D} {R : D → Prop} (h : getD k kvs = some y) : (setKey (.dict kvs) k x).sat R ↔ (isFlat y = true ∧ kvs.length < LIM) ∧ R (.dict (putD kvs k x)) := by simp only [setKey, evKey, h, sat_ite1, sOk]
theorem si_lst {l : List D} {j : Int} {x : D} {R : D → Prop} : (setIx (.list l) (.int j) x).sat R ↔ ∃ k, L2.ixN l.length j = some k ∧ R (.list (l.set k x)) := by
  simp only [setIx]
  cases L2.ixN l.length j with
  | none => simp [sat_bad]
  | some k => simp [sOk]
/-- the end of a def -/
def endB (ms : List Nat) (S : D × List D → Prop) : Fl × Rho → Prop
  | (.nx, ρ) => (outsOf ρ 0 ms).sat fun os => S (.none, os)
  | (.rt d, ρ) => (outsOf ρ 0 ms).sat fun os => S (d, os)
  | _ => False
theorem end_nx {ms : List Nat} {S : D × List D → Prop} : endB ms S (.nx, ρ) ↔ (outsOf ρ 0 ms).sat fun os => S (.none, os) := Iff.rfl
theorem end_rt {ms : List Nat} {S : D × List D → Prop} {d : D} : endB ms S (.rt d, ρ) ↔ (outsOf ρ 0 ms).sat fun os => S (d, os) := Iff.rfl
theorem s_run {f : Df} {ds : List D} {S : D × List D → Prop} (h : ds.length = f.ms.length) : (runDf G fu f ds).sat S ↔ (exS G fu f.body (startR f.ms ds f.N.length)).sat (endB f.ms S) := by
  unfold runDf
  rw [if_pos h, Out.sat_bind]
  refine iff_of_eq (congrArg _ ?_)
  funext r
  obtain ⟨o, ρ'⟩ := r
  cases o <;> simp [endB, sOk, Out.sat_bind, sat_bad]
theorem oo_nil {R : List D → Prop} {j : Nat} : (outsOf ρ j []).sat R ↔ R [] := Iff.rfl
theorem oo_0 {R : List D → Prop} {j : Nat} {ms : List Nat} : (outsOf ρ j (0 :: ms)).sat R ↔ (outsOf ρ (j + 1) ms).sat R := by simp only [outsOf]
theorem oo_s {R : List D → Prop} {j k : Nat} {ms : List Nat} : (outsOf ρ j ((k + 1) :: ms)).sat R ↔ (ownD ρ (k + 1) j).sat fun d => (outsOf ρ (j + 1) ms).sat fun l => R (d :: l) := by simp only [outsOf, Out.sat_bind, sOk]
end
/-! ### loops -/
theorem loop_inv {f : D → Rho → Out (Fl × Rho)} {I : Nat → Rho → Prop} : ∀ (ds : List D) (k : Nat) {ρ : Rho} {Q : Fl × Rho → Prop}, (∀ (i : Nat) (d : D) (ρ : Rho), ds[i]? = some d → I (k + i) ρ → (f d ρ).sat fun r => (r.1 = .nx ∨ r.1 = .ct) ∧ I (k + i + 1) r.2) →
    I k ρ → (∀ ρ', I (k + ds.length) ρ' → Q (.nx, ρ')) → (loopL f ds ρ).sat Q
  | [], k, ρ, Q, _, h, e => e ρ h
  | d :: ds, k, ρ, Q, s, h, e => by
    simp only [loopL, Out.sat_bind]
    refine sat_imp (s 0 d ρ rfl h) fun r ⟨hr, hI⟩ => ?_
    have nx := loop_inv (f := f) (I := I) ds (k + 1) (ρ := r.2) (Q := Q) (fun i d ρ hd hi => by
      have hh : k + 1 + i = k + (i + 1) := by omega
      rw [hh] at hi ⊢
      exact s (i + 1) d ρ (by simpa using hd) hi) hI (fun ρ' h' => e ρ' (by rw [List.length_cons]; rwa [show k + (ds.length + 1) = k + 1 + ds.length by omega]))
    obtain ⟨o, ρ'⟩ := r
    rcases hr with rfl | rfl <;> exact nx
theorem comp_inv {f : D → Rho → Out (Option D × Rho)} {I : Nat → List D → Rho → Prop} : ∀ (ds : List D) (k : Nat) (acc : List D) {ρ : Rho} {Q : List D × Rho → Prop}, (∀ (i : Nat) (d : D) (acc : List D) (ρ : Rho), ds[i]? = some d → I (k + i) acc ρ → (f d ρ).sat fun r => I (k + i + 1) (acc ++ r.1.toList) r.2) →
    I k acc ρ → (∀ l ρ', I (k + ds.length) (acc ++ l) ρ' → Q (l, ρ')) → (compL f ds ρ).sat Q
  | [], k, acc, ρ, Q, _, h, e => e [] ρ (by simpa using h)
  | d :: ds, k, acc, ρ, Q, s, h, e => by
    simp only [compL, Out.sat_bind]
    refine sat_imp (s 0 d acc ρ rfl h) fun r hI => ?_
    refine comp_inv (f := f) (I := I) ds (k + 1) (acc ++ r.1.toList) (ρ := r.2) (fun i d a ρ hd hi => by
      have hh : k + 1 + i = k + (i + 1) := by omega
      rw [hh] at hi ⊢
      exact s (i + 1) d a ρ (by simpa using hd) hi) hI (fun l ρ' h' => ?_)
    have h2 : I (k + (d :: ds).length) (acc ++ (r.1.toList ++ l)) ρ' := by
      rw [List.length_cons, show k + (ds.length + 1) = k + 1 + ds.length by omega, ← List.append_assoc]
      exact h'
    have := e _ _ h2
    obtain ⟨o, ρ1⟩ := r
    cases o <;> exact this
theorem whl_inv {c : Rho → Out (D × Rho)} {b : Rho → Out (Fl × Rho)} {I : Nat → Rho → Prop} {Q : Fl × Rho → Prop} (s : ∀ j ρ, I j ρ → (c ρ).sat fun r => (truth r.1).sat fun t => (t = true → (b r.2).sat fun q => (q.1 = .nx ∨ q.1 = .ct) ∧ ∃ k, k < j ∧ I k q.2) ∧ (t = false → Q (.nx, r.2))) :
    ∀ (n j : Nat) {ρ : Rho}, I j ρ → j < n → (whlN c b n ρ).sat Q
  | 0, _, _, _, h => absurd h (by omega)
  | n + 1, j, ρ, hI, hn => by
    simp only [whlN, Out.sat_bind]
    refine sat_imp (s j ρ hI) fun r h => ?_
    refine sat_imp h fun t ⟨h1, h2⟩ => ?_
    simp only [sat_ite, Out.sat_bind, sOk]
    refine ⟨fun e => sat_imp (h1 e) fun q ⟨hq, k, hk, hI'⟩ => ?_, fun e => h2 (by simpa using e)⟩
    have nx := whl_inv s n k hI' (by omega)
    obtain ⟨o, ρ'⟩ := q
    rcases hq with rfl | rfl <;> exact nx
end Mini.W

set_option Elab.async false
set_option linter.all false
set_option maxRecDepth 100000
set_option maxHeartbeats 1000000
set_option exponentiation.threshold 10000
/-! Mini: the deck of a law's script. -/
namespace Mini.W
open PySem Mini
theorem mulOk_of {i j : Int} (hi : -(2 ^ 4000) ≤ i ∧ i ≤ 2 ^ 4000) (hj : -(2 ^ 4000) ≤ j ∧ j ≤ 2 ^ 4000) : mulOk i j = true := by
  have key : ∀ x : Int, -(2 ^ 4000) ≤ x ∧ x ≤ 2 ^ 4000 → x.natAbs.log2 < 4001 := fun x hx => by
    have hb : x.natAbs < 2 ^ 4001 := by
      have : (x.natAbs : Int) ≤ 2 ^ 4000 := by omega
      have h2 : (2 : Int) ^ 1000 < 2 ^ 4001 := by decide +kernel
      have h3 : ((2 ^ 4001 : Nat) : Int) = 2 ^ 4001 := Int.natCast_pow 2 4001
      omega
    by_cases h0 : x.natAbs = 0
    · rw [h0]; decide
    · exact (Nat.log2_lt h0).mpr hb
  have h1 := key i hi
  have h2 := key j hj
  unfold mulOk
  exact decide_eq_true (by omega)
/-- the pairs of a deck -/
def deckL (l : List Int) (m k : Int) : List (D × D) := [(.str "cells", .list (l.map .int)), (.str "mixed", .int m), (.str "draws", .int k)]
section
variable {l : List Int} {m k j : Int} {R : D → Prop} {S : D × D → Prop} {U : Unit → Prop}
theorem n_cm : ("cells" : Str) ≠ "mixed" := by decide +kernel
theorem n_cd : ("cells" : Str) ≠ "draws" := by decide +kernel
theorem n_md : ("mixed" : Str) ≠ "draws" := by decide +kernel
theorem gC : getD "cells" (deckL l m k) = some (.list (l.map .int)) := getD_eq rfl
theorem gM : getD "mixed" (deckL l m k) = some (.int m) := (getD_ne n_cm).trans (getD_eq rfl)
theorem gDr : getD "draws" (deckL l m k) = some (.int k) := (getD_ne n_cd).trans ((getD_ne n_md).trans (getD_eq rfl))
theorem dk_c : (evKey (.dict (deckL l m k)) "cells").sat R ↔ R (.list (l.map .int)) := o_key gC
theorem dk_m : (evKey (.dict (deckL l m k)) "mixed").sat R ↔ R (.int m) := o_key gM
theorem dk_d : (evKey (.dict (deckL l m k)) "draws").sat R ↔ R (.int k) := o_key gDr
theorem dk_set : (setKey (.dict (deckL l m k)) "draws" (.int j)).sat R ↔ R (.dict (deckL l m j)) := by
  rw [sk_key gDr]
  have e : putD (deckL l m k) "draws" (.int j) = deckL l m j := (putD_ne n_cd).trans (congrArg _ ((putD_ne n_md).trans (congrArg _ (putD_eq rfl))))
  rw [e]
  exact ⟨fun h => h.2, fun h => ⟨⟨rfl, show 3 < 1000000 by decide⟩, h⟩⟩
theorem putC {x : List D} : putD (deckL l m k) "cells" (.list x) = [(.str "cells", .list x), (.str "mixed", .int m), (.str "draws", .int k)] := putD_eq rfl
theorem dk_pop (h : l ≠ []) : (popPath (some "cells") (.dict (deckL l m k))).sat S ↔ S (.int (l.getLast h), .dict (deckL l.dropLast m k)) := by
  rw [p_key gC]
  have e : (l.map PyData.int).getLast? = some (.int (l.getLast h)) := by rw [List.getLast?_map, List.getLast?_eq_some_getLast h]; rfl
  have e2 : putD (deckL l m k) "cells" (.list (l.map PyData.int).dropLast) = deckL l.dropLast m k := by rw [putC, deckL, List.map_dropLast]
  rw [e, e2]
  exact ⟨fun ⟨x, hx, s⟩ => by cases hx; exact s, fun s => ⟨_, rfl, s⟩⟩
theorem dk_can : (canApp (some "cells") (.dict (deckL l m k))).sat U ↔ U () := c_key gC
theorem dk_app : (appPath (some "cells") (.dict (deckL l m k)) (.int j)).sat R ↔ l.length < LIM ∧ R (.dict (deckL (l ++ [j]) m k)) := by
  rw [ap_key gC, putC, List.length_map]
  have e : l.map PyData.int ++ [.int j] = (l ++ [j]).map PyData.int := by rw [List.map_append]; rfl
  rw [e]
  exact Iff.rfl
end
theorem layI : ∀ l : List Int, PyData.canLayAll0 (l.map .int) = true
  | [] => rfl
  | i :: l => by
    have := layI l
    simp only [List.map_cons, PyData.canLayAll0, this, PyData.canLay0, Bool.and_self]
theorem depI : ∀ l : List Int, PyData.depthAll (l.map .int) ≤ 1
  | [] => by simp [PyData.depthAll]
  | i :: l => by
    have := depI l
    simp only [List.map_cons, PyData.depthAll, PyData.depth]
    omega
theorem shapedI (l : List Int) : SeqAt.shaped (.list (l.map .int)) = true := by
  have := depI l
  have e1 : PyData.canLay0 (.list (l.map .int)) = true := by rw [PyData.canLay0]; exact layI l
  have e2 : PyData.depth (.list (l.map .int)) ≤ 64 := by rw [PyData.depth]; omega
  unfold SeqAt.shaped
  rw [e1, decide_eq_true e2]
  rfl
/-- a deck: at most 63 cells, draws made so far -/
def Deck (b : Nat) (d : D) : Prop := ∃ (l : List Int) (m k : Int), d = .dict (deckL l m k) ∧ l.length ≤ 63 ∧ 0 ≤ m ∧ m < 2147483648 ∧ 0 ≤ k ∧ k ≤ b
theorem Deck.mono {a b : Nat} {d : D} (h : Deck a d) (le : a ≤ b) : Deck b d := by
  obtain ⟨l, m, k, e, h1, h2, h3, h4, h5⟩ := h
  exact ⟨l, m, k, e, h1, h2, h3, h4, by omega⟩
/-- the most draws -/
def DL : Nat := 1000000000
/-- a draw: a number below `many`, one draw more -/
def DrawOk (g : List D → Out (D × List D)) : Prop := ∀ (b : Nat) (d : D) (many : Int), Deck b d → b < DL → 0 < many → many ≤ 2 ^ 200 → (g [d, .int many]).sat fun r => ∃ i d', r = (.int i, [d']) ∧ 0 ≤ i ∧ i < many ∧ Deck (b + 1) d'
def PickOk (g : List D → Out (D × List D)) : Prop := ∀ (b : Nat) (d : D) (xs : List D), Deck b d → b < DL → xs ≠ [] → xs.length < 1000000 → (g [d, .list xs]).sat fun r => ∃ x d', r = (x, [d']) ∧ x ∈ xs ∧ Deck (b + 1) d'
/-- bounds of the numbers of a law -/
def TOP : Int := 10 ^ 60
def GreatOk (g : List D → Out (D × List D)) : Prop := ∀ (b : Nat) (d : D) (top : Int), Deck b d → b + 20 < DL → 0 < top → top ≤ TOP → (g [d, .int top]).sat fun r => ∃ i d', r = (.int i, [d']) ∧ 0 ≤ i ∧ i < top ∧ Deck (b + 20) d'
def SignedOk (g : List D → Out (D × List D)) : Prop := ∀ (b : Nat) (d : D) (top : Int), Deck b d → b + 30 < DL → 0 < top → top ≤ TOP → (g [d, .int top]).sat fun r => ∃ i d', r = (.int i, [d']) ∧ -(TOP + 9) ≤ i ∧ i ≤ TOP + 9 ∧ Deck (b + 30) d'
def prodL (l : List Int) : Int := l.foldl (· * ·) 1
def ProductOk (g : List D → Out (D × List D)) : Prop := ∀ (l : List Int), (∀ x ∈ l, 1 ≤ x) → l.foldl (· * ·) 1 ≤ 2 ^ 4000 → (g [.list (l.map .int)]).sat fun r => r = (.int (l.foldl (· * ·) 1), [])
theorem lg {x : Int} (h0 : 0 < x) (h : x ≤ 2 ^ 200) : x.natAbs.log2 < 9000 := by
  have h1 : x.natAbs < 2 ^ 201 := by omega
  have h2 := (Nat.log2_lt (show x.natAbs ≠ 0 by omega)).mpr h1
  omega
theorem atI_ok {xs : List D} {i : Int} (h0 : 0 ≤ i) (h1 : i < xs.length) : ∃ x, L2.atI xs i = some x ∧ x ∈ xs := by
  have hlt : i.toNat < xs.length := by omega
  refine ⟨xs[i.toNat], ?_, List.getElem_mem hlt⟩
  unfold L2.atI L2.ixN
  rw [if_pos h0, if_pos h1]
  exact List.getElem?_eq_getElem hlt
end Mini.W

set_option Elab.async false
set_option linter.all false
set_option maxRecDepth 100000
set_option maxHeartbeats 1000000
/-! Prime powers: plain laws, no program in sight. -/
namespace Mini.W
def PR : List Nat := [2, 3, 5, 7, 11, 13, 17, 19, 23, 29]
def prodN : List Nat → Nat
  | [] => 1
  | x :: l => x * prodN l
theorem prodN_app : ∀ a b : List Nat, prodN (a ++ b) = prodN a * prodN b
  | [], b => by simp [prodN]
  | x :: a, b => by simp only [List.cons_append, prodN, prodN_app a b, Nat.mul_assoc]
theorem prodN_perm {a b : List Nat} (h : a.Perm b) : prodN a = prodN b := by
  induction h with
  | nil => rfl
  | cons x _ ih => simp only [prodN, ih]
  | swap x y l => simp only [prodN, Nat.mul_left_comm]
  | trans _ _ h1 h2 => rw [h1, h2]
theorem foldl_prodN : ∀ (l : List Nat) (a : Int), (l.map fun n : Nat => (n : Int)).foldl (· * ·) a = a * (prodN l : Nat)
  | [], a => by simp [prodN]
  | x :: l, a => by
    rw [List.map_cons, List.foldl_cons, foldl_prodN l, prodN, Int.natCast_mul, Int.mul_assoc]
theorem pr_only {p : Nat} (hp : p ∈ PR) {d : Nat} (h : d ∣ p) : d = 1 ∨ d = p := by
  have key : ∀ p ∈ PR, ∀ d ∈ List.range 30, d ∣ p → d = 1 ∨ d = p := by decide
  have big : ∀ p ∈ PR, 0 < p ∧ p < 30 := by decide
  have := Nat.le_of_dvd (big p hp).1 h
  exact key p hp d (List.mem_range.mpr (by have := (big p hp).2; omega)) h
theorem pr_bd {p : Nat} (hp : p ∈ PR) : 2 ≤ p ∧ p < 30 := by
  have big : ∀ p ∈ PR, 2 ≤ p ∧ p < 30 := by decide
  exact big p hp
theorem pr_cop {p g : Nat} (hp : p ∈ PR) (h : ¬ p ∣ g) : Nat.Coprime p g := by
  rcases pr_only hp (Nat.gcd_dvd_left p g) with e | e
  · exact e
  · exact absurd (e ▸ Nat.gcd_dvd_right p g) h
theorem pr_ne {p r : Nat} (hp : p ∈ PR) (hr : r ∈ PR) (h : p ≠ r) : Nat.Coprime p r := by
  refine pr_cop hp fun d => ?_
  rcases pr_only hr d with e | e
  · have := (pr_bd hp).1; omega
  · exact h e
theorem pr_mul {p a b : Nat} (hp : p ∈ PR) (h : p ∣ a * b) : p ∣ a ∨ p ∣ b := by
  by_cases c : p ∣ a
  · exact .inl c
  · exact .inr ((pr_cop hp c).dvd_of_dvd_mul_left h)
/-- a list of prime powers -/
structure Pq (L : List (Nat × Nat)) : Prop where
  pr : ∀ x ∈ L, x.1 ∈ PR
  pw : ∀ x ∈ L, ∃ e, x.2 = x.1 ^ (e + 1)
  nd : (L.map Prod.fst).Nodup
  root : prodN (L.map Prod.fst) ≤ 1000
  top : prodN (L.map Prod.snd) < 10 ^ 40
abbrev per (L : List (Nat × Nat)) : Nat := prodN (L.map Prod.snd)
theorem dvd_per : ∀ {L : List (Nat × Nat)} {x : Nat × Nat}, x ∈ L → x.2 ∣ per L
  | y :: L, x, h => by
    unfold per
    rw [List.map_cons, prodN]
    rcases List.mem_cons.mp h with rfl | h
    · exact Nat.dvd_mul_right _ _
    · exact Nat.dvd_trans (dvd_per h) (Nat.dvd_mul_left _ _)
theorem cop_per {g : Nat} : ∀ {L : List (Nat × Nat)}, (∀ x ∈ L, ∃ e, x.2 = x.1 ^ (e + 1)) → (∀ x ∈ L, Nat.Coprime g x.1) → Nat.Coprime g (per L)
  | [], _, _ => by simp [per, prodN]
  | y :: L, pw, h => by
    unfold per
    rw [List.map_cons, prodN]
    obtain ⟨e, he⟩ := pw y List.mem_cons_self
    refine Nat.Coprime.mul_right ?_ (cop_per (fun x hx => pw x (List.mem_cons_of_mem _ hx)) fun x hx => h x (List.mem_cons_of_mem _ hx))
    rw [he]
    exact (h y List.mem_cons_self).pow_right _
section
variable {L : List (Nat × Nat)}
theorem Pq.p_dvd_q (P : Pq L) {x : Nat × Nat} (h : x ∈ L) : x.1 ∣ x.2 := by
  obtain ⟨e, he⟩ := P.pw x h
  rw [he, Nat.pow_succ]
  exact Nat.dvd_mul_left _ _
theorem Pq.p_dvd (P : Pq L) {x : Nat × Nat} (h : x ∈ L) : x.1 ∣ per L := Nat.dvd_trans (P.p_dvd_q h) (dvd_per h)
theorem Pq.q_pos (P : Pq L) {x : Nat × Nat} (h : x ∈ L) : 0 < x.2 := by
  obtain ⟨e, he⟩ := P.pw x h
  rw [he]
  exact Nat.pow_pos (by have := (pr_bd (P.pr x h)).1; omega)
theorem prod_pos : ∀ {l : List Nat}, (∀ x ∈ l, 0 < x) → 0 < prodN l
  | [], _ => by simp [prodN]
  | x :: l, h => Nat.mul_pos (h x List.mem_cons_self) (prod_pos fun y hy => h y (List.mem_cons_of_mem _ hy))
theorem Pq.pos (P : Pq L) : 0 < per L := prod_pos fun x hx => by
  obtain ⟨y, hy, rfl⟩ := List.mem_map.mp hx
  exact P.q_pos hy
/-- a divisor that no prime of the list divides is 1 -/
theorem Pq.one (P : Pq L) {g : Nat} (hg : g ∣ per L) (h : ∀ x ∈ L, ¬ x.1 ∣ g) : g = 1 := by
  have c : Nat.Coprime g (per L) := cop_per P.pw fun x hx => (pr_cop (P.pr x hx) (h x hx)).symm
  exact c.eq_one_of_dvd hg
theorem Pq.tail {y : Nat × Nat} (P : Pq (y :: L)) : (∀ x ∈ L, x.1 ∈ PR) ∧ (∀ x ∈ L, ∃ e, x.2 = x.1 ^ (e + 1)) ∧ (L.map Prod.fst).Nodup ∧ y.1 ∉ L.map Prod.fst := by
  have := P.nd
  rw [List.map_cons, List.nodup_cons] at this
  exact ⟨fun x hx => P.pr x (List.mem_cons_of_mem _ hx), fun x hx => P.pw x (List.mem_cons_of_mem _ hx), this.2, this.1⟩
end
theorem crt0 : ∀ {L : List (Nat × Nat)} {z : Nat}, (∀ x ∈ L, x.1 ∈ PR) → (∀ x ∈ L, ∃ e, x.2 = x.1 ^ (e + 1)) → (L.map Prod.fst).Nodup → (∀ x ∈ L, x.2 ∣ z) → per L ∣ z
  | [], z, _, _, _, _ => by simp [per, prodN]
  | y :: L, z, pr, pw, nd, h => by
    rw [List.map_cons, List.nodup_cons] at nd
    unfold per
    rw [List.map_cons, prodN]
    have c : Nat.Coprime y.2 (per L) := by
      obtain ⟨e, he⟩ := pw y List.mem_cons_self
      rw [he]
      refine Nat.Coprime.pow_left _ (cop_per (fun x hx => pw x (List.mem_cons_of_mem _ hx)) fun x hx => pr_ne (pr y List.mem_cons_self) (pr x (List.mem_cons_of_mem _ hx)) fun e => nd.1 ?_)
      rw [e]
      exact List.mem_map_of_mem hx
    exact c.mul_dvd_of_dvd_of_dvd (h y List.mem_cons_self) (crt0 (fun x hx => pr x (List.mem_cons_of_mem _ hx)) (fun x hx => pw x (List.mem_cons_of_mem _ hx)) nd.2 fun x hx => h x (List.mem_cons_of_mem _ hx))
section
variable {L : List (Nat × Nat)}
theorem Pq.crt (P : Pq L) {z : Nat} : per L ∣ z ↔ ∀ x ∈ L, x.2 ∣ z := ⟨fun h x hx => Nat.dvd_trans (dvd_per hx) h, crt0 P.pr P.pw P.nd⟩
theorem Pq.crtI (P : Pq L) {z : Int} : z % (per L : Int) = 0 ↔ ∀ x ∈ L, z % (x.2 : Int) = 0 := by
  have key : ∀ n : Nat, z % (n : Int) = 0 ↔ n ∣ z.natAbs := fun n => by
    rw [← Int.dvd_iff_emod_eq_zero, ← Int.natAbs_dvd_natAbs, Int.natAbs_natCast]
  rw [key, P.crt]
  exact ⟨fun h x hx => (key _).mpr (h x hx), fun h x hx => (key _).mp (h x hx)⟩
/-- what is left beside one prime power -/
theorem Pq.rest (P : Pq L) {x : Nat × Nat} (h : x ∈ L) : ∃ r, per L = x.2 * r ∧ ¬ x.1 ∣ r ∧ ∀ y ∈ L, y.1 ≠ x.1 → y.1 ∣ r := by
  obtain ⟨s, t, rfl⟩ := List.append_of_mem h
  have nd := P.nd
  rw [List.map_append, List.map_cons] at nd
  have nd2 := List.nodup_append.mp nd
  have n1 : ∀ y ∈ s ++ t, y.1 ≠ x.1 := fun y hy e => by
    rcases List.mem_append.mp hy with hy | hy
    · exact nd2.2.2 _ (List.mem_map_of_mem hy) _ List.mem_cons_self e
    · exact (List.nodup_cons.mp nd2.2.1).1 (e ▸ List.mem_map_of_mem hy)
  have sub : ∀ y ∈ s ++ t, y ∈ s ++ x :: t := fun y hy => by
    rcases List.mem_append.mp hy with hy | hy
    · exact List.mem_append_left _ hy
    · exact List.mem_append_right _ (List.mem_cons_of_mem _ hy)
  refine ⟨per (s ++ t), ?_, fun d => ?_, fun y hy ne => ?_⟩
  · unfold per
    rw [List.map_append, List.map_cons, List.map_append, prodN_app, prodN_app, prodN, Nat.mul_left_comm]
  · have c : Nat.Coprime x.1 (per (s ++ t)) := cop_per (fun y hy => P.pw y (sub y hy)) fun y hy => pr_ne (P.pr x h) (P.pr y (sub y hy)) fun e => n1 y hy e.symm
    have := c.eq_one_of_dvd d
    have := (pr_bd (P.pr x h)).1
    omega
  · have hy2 : y ∈ s ++ t := by
      rcases List.mem_append.mp hy with hy | hy
      · exact List.mem_append_left _ hy
      · rcases List.mem_cons.mp hy with rfl | hy
        · exact absurd rfl ne
        · exact List.mem_append_right _ hy
    exact Nat.dvd_trans (P.p_dvd_q hy) (dvd_per hy2)
/-- one prime power by itself -/
theorem Pq.one_of (P : Pq L) {x : Nat × Nat} (h : x ∈ L) : Pq [x] := by
  have hb := pr_bd (P.pr x h)
  have hl : x.2 ≤ per L := Nat.le_of_dvd P.pos (dvd_per h)
  refine ⟨fun y hy => ?_, fun y hy => ?_, by simp, ?_, ?_⟩
  · rw [List.mem_singleton.mp hy]; exact P.pr x h
  · rw [List.mem_singleton.mp hy]; exact P.pw x h
  · simp only [List.map_cons, List.map_nil, prodN]; omega
  · simp only [List.map_cons, List.map_nil, prodN]
    have := P.top
    unfold per at hl
    omega
end
/-- how often k s comes to a multiple of M -/
theorem comes {M : Nat} (hM : 0 < M) (k s : Int) : (k * s) % (M : Int) = 0 ↔ k % ((M / Nat.gcd M s.natAbs : Nat) : Int) = 0 := by
  have key : ∀ (z : Int) (n : Nat), z % (n : Int) = 0 ↔ n ∣ z.natAbs := fun z n => by
    rw [← Int.dvd_iff_emod_eq_zero, ← Int.natAbs_dvd_natAbs, Int.natAbs_natCast]
  rw [key, key, Int.natAbs_mul]
  have hg : 0 < Nat.gcd M s.natAbs := Nat.gcd_pos_of_pos_left _ hM
  obtain ⟨n, hn⟩ := Nat.gcd_dvd_left M s.natAbs
  obtain ⟨s', hs⟩ := Nat.gcd_dvd_right M s.natAbs
  have hn2 : M / Nat.gcd M s.natAbs = n := by
    conv => lhs; arg 1; rw [hn]
    exact Nat.mul_div_cancel_left _ hg
  have c : Nat.Coprime n s' := by
    have h1 := Nat.gcd_mul_left (Nat.gcd M s.natAbs) n s'
    rw [← hn, ← hs] at h1
    have h2 : Nat.gcd M s.natAbs * Nat.gcd n s' = Nat.gcd M s.natAbs * 1 := by rw [← h1, Nat.mul_one]
    exact Nat.eq_of_mul_eq_mul_left hg h2
  rw [hn2]
  constructor
  · intro h
    have h1 : Nat.gcd M s.natAbs * n ∣ Nat.gcd M s.natAbs * (k.natAbs * s') := by
      rw [← hn, Nat.mul_left_comm, ← hs]
      exact h
    exact c.dvd_of_dvd_mul_right (Nat.dvd_of_mul_dvd_mul_left hg h1)
  · intro h
    have h1 : Nat.gcd M s.natAbs * n ∣ Nat.gcd M s.natAbs * (k.natAbs * s') := Nat.mul_dvd_mul_left _ (Nat.dvd_trans h (Nat.dvd_mul_right _ _))
    rw [← hn, Nat.mul_left_comm, ← hs] at h1
    exact h1
end Mini.W

set_option Elab.async false
set_option linter.all false
set_option maxRecDepth 100000
set_option maxHeartbeats 1000000
set_option exponentiation.threshold 10000
/-! Lists of ints as data; comprehensions that map. -/
namespace Mini.W
open PySem Mini
abbrev eI (l : List Int) : List PyData := l.map .int
def dot (c x : List Int) : Int := (List.zipWith (· * ·) c x).sum
theorem eqvI {a b : Int} : PyData.eqv (.int a) (.int b) = decide (a = b) := by
  rw [PyData.eqv]
  by_cases h : a = b <;> simp [h]
theorem cmap {α : Type} {f : PyData → Rho → Out (Option PyData × Rho)} {ρ0 : Rho} (enc : α → PyData) (dec : α → PyData) : ∀ (l : List α) {Q : List PyData × Rho → Prop}, (∀ a ∈ l, (f (enc a) ρ0).sat fun r => r = (some (dec a), ρ0)) → Q (l.map dec, ρ0) → (compL f (l.map enc) ρ0).sat Q
  | [], Q, _, h => h
  | a :: l, Q, s, h => by
    simp only [List.map_cons, compL, Out.sat_bind]
    refine sat_imp (s a List.mem_cons_self) ?_
    rintro _ rfl
    refine cmap enc dec l (fun b hb => s b (List.mem_cons_of_mem _ hb)) ?_
    exact h
theorem cfilt {α : Type} {f : PyData → Rho → Out (Option PyData × Rho)} {ρ0 : Rho} (enc : α → PyData) (dec : α → Option PyData) : ∀ (l : List α) {Q : List PyData × Rho → Prop}, (∀ a ∈ l, (f (enc a) ρ0).sat fun r => r = (dec a, ρ0)) → Q (l.filterMap dec, ρ0) → (compL f (l.map enc) ρ0).sat Q
  | [], Q, _, h => h
  | a :: l, Q, s, h => by
    simp only [List.map_cons, compL, Out.sat_bind]
    refine sat_imp (s a List.mem_cons_self) ?_
    rintro _ rfl
    refine cfilt enc dec l (fun b hb => s b (List.mem_cons_of_mem _ hb)) ?_
    rw [List.filterMap_cons] at h
    cases e : dec a with
    | none => rw [e] at h; exact h
    | some x => rw [e] at h; exact h
theorem zip_eI : ∀ c x : List Int, ((eI c).zip (eI x)).map (fun p => PyData.tuple [p.1, p.2]) = (c.zip x).map fun p => PyData.tuple [.int p.1, .int p.2]
  | [], _ => by simp
  | _ :: _, [] => by simp
  | a :: c, b :: x => by
    have := zip_eI c x
    simp only [eI, List.map_cons, List.zip_cons_cons] at this ⊢
    rw [this]
theorem zipW : ∀ c x : List Int, (c.zip x).map (fun p => PyData.int (p.1 * p.2)) = eI (List.zipWith (· * ·) c x)
  | [], _ => by simp
  | _ :: _, [] => by simp
  | a :: c, b :: x => by
    have := zipW c x
    simp only [eI, List.map_cons, List.zip_cons_cons, List.zipWith_cons_cons] at this ⊢
    rw [this]
/-- bounds of items -/
def XB : Int := 10 ^ 300
def Bd (l : List Int) : Prop := ∀ x ∈ l, -XB ≤ x ∧ x ≤ XB
theorem mulX {a b : Int} (ha : -XB ≤ a ∧ a ≤ XB) (hb : -XB ≤ b ∧ b ≤ XB) : mulOk a b = true := by
  have : XB = 10 ^ 300 := rfl
  exact mulOk_of (by omega) (by omega)
theorem zip_mem {c x : List Int} {p : Int × Int} (h : p ∈ c.zip x) : p.1 ∈ c ∧ p.2 ∈ x := List.of_mem_zip h
/-- a valid row of a stripe's class, of the period per L -/
structure ValC (L : List (Nat × Nat)) (c : List Int) : Prop where
  len : 1 ≤ c.length ∧ c.length ≤ 3
  rng : ∀ x ∈ c, 0 ≤ x ∧ x < (per L : Int)
  cop : ∀ y ∈ L, ∃ x ∈ c, ¬ (y.1 : Int) ∣ x
theorem ValC.bd {L : List (Nat × Nat)} {c : List Int} (P : Pq L) (v : ValC L c) : Bd c := fun x hx => by
  have := P.top
  have := v.rng x hx
  have : XB = 10 ^ 300 := rfl
  unfold per at *
  omega
abbrev stripe (M : Int) (c : List Int) (r : Int) : PyData := .tuple [.int M, .tuple (eI c), .int r]
/-! ### what the defs of the library do, where they are asked -/
def TrueOk (g : List PyData → Out (PyData × List PyData)) (ds : List PyData) : Prop := (g ds).sat fun r => r = (.bool true, [])
def IsIntOk (g : List PyData → Out (PyData × List PyData)) : Prop := ∀ i : Int, TrueOk g [.int i]
def AreIntsOk (g : List PyData → Out (PyData × List PyData)) : Prop := ∀ l : List Int, l.length ≤ LIM → TrueOk g [.tuple (eI l)]
def PeriodOk (g : List PyData → Out (PyData × List PyData)) : Prop := ∀ L, Pq L → TrueOk g [.int (per L)]
def CellRowOk (g : List PyData → Out (PyData × List PyData)) : Prop := ∀ l : List Int, 1 ≤ l.length → l.length ≤ 3 → TrueOk g [.tuple (eI l)]
def CellOfOk (g : List PyData → Out (PyData × List PyData)) : Prop := ∀ (l : List Int) (n : Int), 1 ≤ l.length → l.length ≤ 3 → n = l.length → TrueOk g [.tuple (eI l), .int n]
def ProdAtOk (g : List PyData → Out (PyData × List PyData)) : Prop := ∀ c x : List Int, c.length ≤ LIM → Bd c → Bd x → (g [.tuple (eI c), .tuple (eI x)]).sat fun r => r = (.int (dot c x), [])
def ClassOk (g : List PyData → Out (PyData × List PyData)) : Prop := ∀ L c, Pq L → ValC L c → TrueOk g [.int (per L), .tuple (eI c)]
def StripeOk (g : List PyData → Out (PyData × List PyData)) : Prop := ∀ L c r, Pq L → ValC L c → 0 ≤ r → r < (per L : Int) → TrueOk g [stripe (per L) c r]
def LiesOk (g : List PyData → Out (PyData × List PyData)) : Prop := ∀ (M : Nat) (c : List Int) (r : Int) (x : List Int), 0 < M → c.length ≤ LIM → Bd c → Bd x → (g [stripe M c r, .tuple (eI x)]).sat fun q => q = (.bool (decide ((dot c x - r) % (M : Int) = 0)), [])
def NeedOk (g : List PyData → Out (PyData × List PyData)) : Prop := ∀ L c r, Pq L → ValC L c → 0 ≤ r → r < (per L : Int) → (g [.tuple [stripe (per L) c r]]).sat fun q => q.2 = []
def IsOnOk (g : List PyData → Out (PyData × List PyData)) : Prop := ∀ L c r x, Pq L → ValC L c → 0 ≤ r → r < (per L : Int) → x.length = c.length → Bd x → (g [stripe (per L) c r, .tuple (eI x)]).sat fun q => q = (.bool (decide ((dot c x - r) % (per L : Int) = 0)), [])
def DueOk (g : List PyData → Out (PyData × List PyData)) : Prop := ∀ L c r x b, Pq L → ValC L c → 0 ≤ r → r < (per L : Int) → x.length = c.length → Bd x → (b = true ↔ (dot c x - r) % (per L : Int) = 0) → TrueOk g [stripe (per L) c r, .tuple (eI x), .bool b]
theorem at0 {a : PyData} {l : List PyData} : L2.atI (a :: l) 0 = some a := by
  unfold L2.atI L2.ixN
  rw [if_pos (by omega), if_pos (by simp only [List.length_cons]; omega)]
  rfl
theorem at1 {a b : PyData} {l : List PyData} : L2.atI (a :: b :: l) 1 = some b := by
  unfold L2.atI L2.ixN
  rw [if_pos (by omega), if_pos (by simp only [List.length_cons]; omega)]
  rfl
theorem at2 {a b c : PyData} {l : List PyData} : L2.atI (a :: b :: c :: l) 2 = some c := by
  unfold L2.atI L2.ixN
  rw [if_pos (by omega), if_pos (by simp only [List.length_cons]; omega)]
  rfl
theorem isi_int {i : Int} : (evBlt (.isi ["int"]) [.int i]) = .ok (.bool true) := by
  simp [evBlt, isiD, pyTy, isT]
theorem isi_bool {i : Int} : (evBlt (.isi ["bool"]) [.int i]) = .ok (.bool false) := by
  simp [evBlt, isiD, pyTy, isT]
theorem isi_tup {l : List PyData} : (evBlt (.isi ["tuple"]) [.tuple l]) = .ok (.bool true) := by
  simp [evBlt, isiD, pyTy, isT]
theorem range_get {a b : Int} {i : Nat} {d : PyData} (h : (rangeD a b)[i]? = some d) : d = .int (a + i) ∧ a + i < b := by
  unfold rangeD at h
  rw [List.getElem?_map] at h
  by_cases c : i < (b - a).toNat
  · rw [List.getElem?_range c] at h
    simp at h
    exact ⟨h.symm, by omega⟩
  · rw [List.getElem?_eq_none (by rw [List.length_range]; omega)] at h
    cases h
theorem range_len {a b : Int} : (rangeD a b).length = (b - a).toNat := by unfold rangeD; rw [List.length_map, List.length_range]
def CommonOk (g : List PyData → Out (PyData × List PyData)) : Prop := ∀ (a : Nat) (s : Int), 0 < a → s.natAbs < 10 ^ 700 → (g [.int a, .int s]).sat fun r => r = (.int (Nat.gcd a s.natAbs : Nat), [])
def mv (x t : List Int) (k : Int) : List Int := List.zipWith (fun a b => a + k * b) x t
def MovedOk (g : List PyData → Out (PyData × List PyData)) : Prop := ∀ (x t : List Int) (k : Int), x.length ≤ LIM → Bd t → -XB ≤ k ∧ k ≤ XB → (g [.tuple (eI x), .tuple (eI t), .int k]).sat fun r => r = (.tuple (eI (mv x t k)), [])
theorem zipM (k : Int) : ∀ c x : List Int, (c.zip x).map (fun p => PyData.int (p.1 + k * p.2)) = eI (mv c x k)
  | [], _ => by simp [mv]
  | _ :: _, [] => by simp [mv]
  | a :: c, b :: x => by
    have := zipM k c x
    simp only [eI, mv, List.map_cons, List.zip_cons_cons, List.zipWith_cons_cons] at this ⊢
    rw [this]
theorem rb {b : Bool} {R : PyData → Prop} : (evBlt .repr [.tuple [.bool b, .bool b]]).sat R ↔ R (.str (PyData.shown (.tuple [.bool b, .bool b]))) := by
  rw [o_repr]
  have : (PyData.tuple [.bool b, .bool b]).showable = true ∧ (PyData.tuple [.bool b, .bool b]).hasDict = false ∧ (PyData.tuple [.bool b, .bool b]).depth ≤ 40 ∧ (PyData.tuple [.bool b, .bool b]).shown.length ≤ LIM := by
    cases b <;> decide +kernel
  exact ⟨fun h => h.2, fun h => ⟨this, h⟩⟩
theorem eqvS {s : Str} : PyData.eqv (.str s) (.str s) = true := by rw [PyData.eqv]; simp
theorem prodN_filter {α : Type} (f : α → Nat) (p : α → Bool) : ∀ l : List α, (∀ x ∈ l, 0 < f x) → prodN ((l.filter p).map f) ≤ prodN (l.map f)
  | [], _ => Nat.le_refl _
  | x :: l, h => by
    have ih := prodN_filter f p l fun y hy => h y (List.mem_cons_of_mem _ hy)
    have h1 := h x List.mem_cons_self
    rw [List.filter_cons]
    split
    · simp only [List.map_cons, prodN]
      exact Nat.mul_le_mul_left _ ih
    · simp only [List.map_cons, prodN]
      exact Nat.le_trans ih (Nat.le_mul_of_pos_left _ h1)
/-- the primes of the list from k on -/
def fromK (L : List (Nat × Nat)) (k : Nat) : List (Nat × Nat) := L.filter fun x => decide (k ≤ x.1)
def belowK (L : List (Nat × Nat)) (k : Nat) : List (Nat × Nat) := L.filter fun x => decide (x.1 < k)
section
variable {L : List (Nat × Nat)} {k : Nat}
theorem from_cop (P : Pq L) (hk : 2 ≤ k) (h : ∀ x ∈ L, x.1 ≠ k) : ¬ k ∣ per (fromK L k) := fun d => by
  have c : Nat.Coprime k (per (fromK L k)) := cop_per (fun x hx => P.pw x (List.mem_filter.mp hx).1) fun x hx => by
    have hx := List.mem_filter.mp hx
    have h1 := of_decide_eq_true hx.2
    have h2 := h x hx.1
    exact (pr_cop (P.pr x hx.1) fun d => by have := Nat.le_of_dvd (by omega) d; omega).symm
  have := c.eq_one_of_dvd d
  omega
theorem from_skip (h : ∀ x ∈ L, x.1 ≠ k) : fromK L (k + 1) = fromK L k := by
  unfold fromK
  refine List.filter_congr fun x hx => ?_
  have := h x hx
  by_cases c : k ≤ x.1
  · rw [decide_eq_true c, decide_eq_true (by omega)]
  · rw [decide_eq_false c, decide_eq_false (by omega)]
theorem below_skip (h : ∀ x ∈ L, x.1 ≠ k) : belowK L (k + 1) = belowK L k := by
  unfold belowK
  refine List.filter_congr fun x hx => ?_
  have := h x hx
  by_cases c : x.1 < k
  · rw [decide_eq_true c, decide_eq_true (by omega)]
  · rw [decide_eq_false c, decide_eq_false (by omega)]
theorem nd_split (P : Pq L) {x : Nat × Nat} (h : x ∈ L) : ∃ s t, L = s ++ x :: t ∧ (∀ y ∈ s, y.1 ≠ x.1) ∧ ∀ y ∈ t, y.1 ≠ x.1 := by
  obtain ⟨s, t, rfl⟩ := List.append_of_mem h
  have nd := P.nd
  rw [List.map_append, List.map_cons] at nd
  have nd2 := List.nodup_append.mp nd
  exact ⟨s, t, rfl, fun y hy e => nd2.2.2 _ (List.mem_map_of_mem hy) _ List.mem_cons_self e, fun y hy e => (List.nodup_cons.mp nd2.2.1).1 (e ▸ List.mem_map_of_mem hy)⟩
theorem from_take (P : Pq L) {x : Nat × Nat} (h : x ∈ L) : per (fromK L x.1) = x.2 * per (fromK L (x.1 + 1)) ∧ prodN ((belowK L (x.1 + 1)).map Prod.fst) = x.1 * prodN ((belowK L x.1).map Prod.fst) := by
  obtain ⟨s, t, rfl, hs, ht⟩ := nd_split P h
  have a1 := from_skip (L := s) (k := x.1) hs
  have a2 := from_skip (L := t) (k := x.1) ht
  have a3 := below_skip (L := s) (k := x.1) hs
  have a4 := below_skip (L := t) (k := x.1) ht
  unfold fromK belowK at *
  constructor
  · unfold per
    rw [List.filter_append, List.filter_append, List.filter_cons, List.filter_cons, if_pos (decide_eq_true (Nat.le_refl _)), if_neg (by simp), a1, a2, List.map_append, List.map_append, List.map_cons, prodN_app, prodN_app, prodN, Nat.mul_left_comm]
  · rw [List.filter_append, List.filter_append, List.filter_cons, List.filter_cons, if_pos (decide_eq_true (Nat.lt_succ_self _)), if_neg (by simp), a3, a4, List.map_append, List.map_append, List.map_cons, prodN_app, prodN_app, prodN, Nat.mul_left_comm]
theorem from_not (P : Pq L) {x : Nat × Nat} (h : x ∈ L) : ¬ x.1 ∣ per (fromK L (x.1 + 1)) := fun d => by
  have hb := pr_bd (P.pr x h)
  have c : Nat.Coprime x.1 (per (fromK L (x.1 + 1))) := cop_per (fun y hy => P.pw y (List.mem_filter.mp hy).1) fun y hy => by
    have hy := List.mem_filter.mp hy
    have h1 := of_decide_eq_true hy.2
    exact pr_ne (P.pr x h) (P.pr y hy.1) (by omega)
  have := c.eq_one_of_dvd d
  omega
theorem from_end (P : Pq L) : fromK L 30 = [] := List.filter_eq_nil_iff.mpr fun x hx => by
  have := (pr_bd (P.pr x hx)).2
  simp only [decide_eq_true_eq]
  omega
theorem from_start (P : Pq L) : fromK L 2 = L := List.filter_eq_self.mpr fun x hx => decide_eq_true (pr_bd (P.pr x hx)).1
theorem below_end (P : Pq L) : belowK L 30 = L := List.filter_eq_self.mpr fun x hx => decide_eq_true (pr_bd (P.pr x hx)).2
theorem below_start (P : Pq L) : belowK L 2 = [] := List.filter_eq_nil_iff.mpr fun x hx => by
  have := (pr_bd (P.pr x hx)).1
  simp only [decide_eq_true_eq]
  omega
end
end Mini.W

set_option Elab.async false
set_option linter.all false
set_option maxRecDepth 100000
set_option maxHeartbeats 1000000
set_option exponentiation.threshold 10000
/-! Lists of naturals, pairs, sorting, membership as data. -/
namespace Mini.W
open PySem Mini
theorem bF {b : Bool} {A B : Prop} (h : b = false) (k : B) : (b = true → A) ∧ (b = false → B) := ⟨fun e => absurd (e.symm.trans h) (by decide), fun _ => k⟩
theorem bT {b : Bool} {A B : Prop} (h : b = true) (k : A) : (b = true → A) ∧ (b = false → B) := ⟨fun _ => k, fun e => absurd (h.symm.trans e) (by decide)⟩
abbrev eN (l : List Nat) : List PyData := l.map fun n : Nat => .int (n : Int)
abbrev eP (L : List (Nat × Nat)) : List PyData := L.map fun x => .tuple [.int (x.1 : Int), .int (x.2 : Int)]
theorem inD_N {p : Nat} {l : List Nat} : inD (.int (p : Int)) (eN l) = true ↔ p ∈ l := by
  unfold inD
  rw [List.any_eq_true]
  constructor
  · rintro ⟨y, hy, h⟩
    obtain ⟨n, hn, rfl⟩ := List.mem_map.mp hy
    rw [eqvI] at h
    have := of_decide_eq_true h
    have e : n = p := by omega
    exact e ▸ hn
  · intro h
    exact ⟨.int (p : Int), List.mem_map.mpr ⟨p, h, rfl⟩, by rw [eqvI]; exact decide_eq_true rfl⟩
theorem flatN (l : List Nat) : (eN l).all isFlat = true := List.all_eq_true.mpr fun x hx => by
  obtain ⟨n, _, rfl⟩ := List.mem_map.mp hx
  rfl
theorem noDictP (L : List (Nat × Nat)) : noDict 1 (.list (eP L)) = true := List.all_eq_true.mpr fun x hx => by
  obtain ⟨n, _, rfl⟩ := List.mem_map.mp hx
  rfl
theorem noDictI (l : List Int) : noDict 1 (.list (eI l)) = true := List.all_eq_true.mpr fun x hx => by
  obtain ⟨n, _, rfl⟩ := List.mem_map.mp hx
  rfl
def natOf : PyData → Nat
  | .int i => i.toNat
  | _ => 0
theorem sortN {l : List Nat} {R : PyData → Prop} (h : ∀ l' : List Nat, l'.Perm l → R (.list (eN l'))) : (evBlt .sort [.list (eN l)]).sat R := by
  have a1 : allAlike (eN l) = true := List.all_eq_true.mpr fun x hx => List.all_eq_true.mpr fun y hy => by
    obtain ⟨n, _, rfl⟩ := List.mem_map.mp hx
    obtain ⟨k, _, rfl⟩ := List.mem_map.mp hy
    rfl
  have a2 : sortable (eN l) = true := by
    unfold sortable
    rw [Bool.or_eq_true]
    exact .inr (List.all_eq_true.mpr fun x hx => by
      obtain ⟨n, _, rfl⟩ := List.mem_map.mp hx
      rfl)
  have a3 : shallow (eN l) = true := List.all_eq_true.mpr fun x hx => by
    obtain ⟨n, _, rfl⟩ := List.mem_map.mp hx
    rw [PyData.depth]
    rfl
  show (evSort (.list (eN l))).sat R
  have e0 : evSort (.list (eN l)) = .ok (.list ((eN l).mergeSort (PySem.W.dataLe false id))) := if_pos ⟨a1, a2, a3⟩
  rw [e0]
  have pm : ((eN l).mergeSort (PySem.W.dataLe false id)).Perm (eN l) := List.mergeSort_perm _ _
  have p2 := pm.map natOf
  have e1 : (eN l).map natOf = l := by
    rw [List.map_map]
    conv => rhs; rw [← List.map_id l]
    exact List.map_congr_left fun n _ => by simp [natOf]
  rw [e1] at p2
  have e2 : eN (((eN l).mergeSort (PySem.W.dataLe false id)).map natOf) = (eN l).mergeSort (PySem.W.dataLe false id) := by
    unfold eN
    rw [List.map_map]
    conv => rhs; rw [← List.map_id ((List.map (fun n : Nat => PyData.int (n : Int)) l).mergeSort (PySem.W.dataLe false id))]
    refine List.map_congr_left fun x hx => ?_
    obtain ⟨n, _, rfl⟩ := List.mem_map.mp (pm.mem_iff.mp hx)
    simp [natOf]
  have := h _ p2
  rw [e2] at this
  exact this
theorem two_pow_prod : ∀ {l : List Nat}, (∀ x ∈ l, 2 ≤ x) → 2 ^ l.length ≤ prodN l
  | [], _ => Nat.le_refl _
  | x :: l, h => by
    have h1 := h x List.mem_cons_self
    have h2 := two_pow_prod fun y hy => h y (List.mem_cons_of_mem _ hy)
    rw [List.length_cons, Nat.pow_succ, prodN, Nat.mul_comm]
    exact Nat.mul_le_mul h1 h2
theorem Pq.few {L : List (Nat × Nat)} (P : Pq L) : L.length ≤ 9 := by
  have h1 := two_pow_prod (l := L.map Prod.fst) fun x hx => by
    obtain ⟨y, hy, rfl⟩ := List.mem_map.mp hx
    exact (pr_bd (P.pr y hy)).1
  rw [List.length_map] at h1
  have h2 := P.root
  rcases Nat.lt_or_ge L.length 10 with h | h
  · omega
  · have := Nat.pow_le_pow_right (show 0 < 2 by omega) h
    omega
theorem o_slc {l : List PyData} {lo hi : Option Int} {R : PyData → Prop} : (evSlc (.list l) lo hi).sat R ↔ R (.list (cutD l lo hi)) := Iff.rfl
theorem i2_nh {j : Int} {R : Option Int → Option Int → Prop} : ints2 .none (.int j) R ↔ R none (some j) := Iff.rfl
theorem cut_eI (l : List Int) (lo hi : Option Int) : ∃ l2 : List Int, cutD (eI l) lo hi = eI l2 ∧ l2.length ≤ l.length := by
  refine ⟨(l.drop (HT.sIx l.length 0 lo)).take (HT.sIx l.length l.length hi - HT.sIx l.length 0 lo), ?_, ?_⟩
  · unfold cutD eI
    rw [List.length_map, List.map_take, List.map_drop]
  · rw [List.length_take, List.length_drop]
    omega
def DeckOk (g : List PyData → Out (PyData × List PyData)) : Prop := ∀ ns : List Int, ns.length ≤ 63 → (g [.list (eI ns)]).sat fun r => ∃ d', r = (d', []) ∧ Deck 0 d'
def PowersOk (g : List PyData → Out (PyData × List PyData)) : Prop := ∀ (b : Nat) (d : PyData), Deck b d → b + 1000 < DL → (g [d, .int (10 ^ 40), .int 1000]).sat fun r => ∃ L d', r = (.list (eP L), [d']) ∧ Pq L ∧ Deck (b + 1000) d'
def NumbersOk (g : List PyData → Out (PyData × List PyData)) : Prop := ∀ (b : Nat) (d : PyData) (L : List (Nat × Nat)) (n : Nat), Pq L → 1 ≤ n → n ≤ 3 → Deck b d → b + 1000 < DL →
  (g [d, .list (eP L), .int (per L), .int n]).sat fun r => ∃ c d', r = (.tuple (eI c), [d']) ∧ ValC L c ∧ c.length = n ∧ Deck (b + 1000) d'
def UnitOk (g : List PyData → Out (PyData × List PyData)) : Prop := ∀ (b : Nat) (d : PyData) (L : List (Nat × Nat)), Pq L → Deck b d → b + 1000 < DL →
  (g [d, .list (eP L), .int (per L)]).sat fun r => ∃ (u : Int) (d' : PyData), r = (.int u, [d']) ∧ (∀ y ∈ L, ¬ (y.1 : Int) ∣ u) ∧ 0 ≤ u ∧ u ≤ 10 ^ 42 ∧ Deck (b + 1000) d'
end Mini.W

set_option Elab.async false
set_option linter.all false
set_option maxRecDepth 100000
set_option maxHeartbeats 1000000
set_option exponentiation.threshold 10000
/-! More of lists of ints as data; rests. -/
namespace Mini.W
open PySem Mini
theorem filt_eI (p : Int → Bool) : ∀ c : List Int, c.filterMap (fun a => if p a = true then some (PyData.int a) else none) = eI (c.filter p)
  | [] => rfl
  | a :: c => by
    rw [List.filterMap_cons, List.filter_cons, filt_eI p c]
    by_cases h : p a = true
    · rw [if_pos h, if_pos h]; rfl
    · rw [if_neg h, if_neg h]
theorem eqvNil (l : List Int) : PyData.eqv (.list (eI l)) (.list []) = l.isEmpty := by
  cases l with
  | nil => rw [PyData.eqv]; rfl
  | cons a l => rw [PyData.eqv]; rfl
theorem shNil : SeqAt.shaped (.list []) = true := shapedI []
theorem shI {i : Int} : SeqAt.shaped (.int i) = true := rfl
theorem ixN_ok {n : Nat} {i : Int} (h0 : 0 ≤ i) (h1 : i < n) : L2.ixN n i = some i.toNat := by
  unfold L2.ixN
  rw [if_pos h0, if_pos h1]
theorem atI_I {c : List Int} {i : Int} (h0 : 0 ≤ i) (h1 : i < c.length) : L2.atI (eI c) i = some (.int (c[i.toNat]'(by omega))) := by
  unfold L2.atI
  rw [ixN_ok h0 (by rw [List.length_map]; exact h1)]
  show (eI c)[i.toNat]? = _
  rw [List.getElem?_map, List.getElem?_eq_getElem (by omega)]
  rfl
theorem set_eI {c : List Int} {k : Nat} {v : Int} : (eI c).set k (.int v) = eI (c.set k v) := by
  unfold eI
  rw [List.map_set]
theorem dvd_mod {p m z : Int} (h : p ∣ m) : p ∣ z % m ↔ p ∣ z := by
  rw [Int.dvd_iff_emod_eq_zero, Int.dvd_iff_emod_eq_zero, Int.emod_emod_of_dvd z h]
theorem take_snoc {α : Type} {L : List α} {j : Nat} {x : α} (h : L[j]? = some x) : L.take (j + 1) = L.take j ++ [x] := by
  rw [List.take_add_one, h]
  rfl
theorem lt_of_get {α : Type} {L : List α} {j : Nat} {x : α} (h : L[j]? = some x) : j < L.length := by
  rcases Nat.lt_or_ge j L.length with q | q
  · exact q
  · rw [List.getElem?_eq_none q] at h; cases h
theorem before_ne {L : List (Nat × Nat)} (P : Pq L) {j : Nat} {x y : Nat × Nat} (h : L[j]? = some x) (hy : y ∈ L.take j) : y.1 ≠ x.1 := fun e => by
  have nd : ((L.take (j + 1)).map Prod.fst).Nodup := by
    rw [List.map_take]
    exact P.nd.sublist (List.take_sublist _ _)
  rw [take_snoc h, List.map_append] at nd
  exact (List.nodup_append.mp nd).2.2 _ (List.mem_map_of_mem hy) _ (by simp) e
/-- what is left of the period beside x, as an int -/
theorem rest_int {L : List (Nat × Nat)} (P : Pq L) {x : Nat × Nat} (h : x ∈ L) : ∃ r : Nat, (per L : Int) / (x.2 : Int) = (r : Int) ∧ r ≤ per L ∧ ¬ (x.1 : Int) ∣ (r : Int) ∧ ∀ y ∈ L, y.1 ≠ x.1 → (y.1 : Int) ∣ (r : Int) := by
  obtain ⟨r, h1, h2, h3⟩ := P.rest h
  have hq := P.q_pos h
  refine ⟨r, ?_, ?_, fun d => h2 (Int.natCast_dvd_natCast.mp d), fun y hy ne => Int.natCast_dvd_natCast.mpr (h3 y hy ne)⟩
  · rw [← Int.natCast_ediv, h1, Nat.mul_div_cancel_left _ hq]
  · rw [h1]
    exact Nat.le_mul_of_pos_left _ hq
theorem Pq.dvdI {L : List (Nat × Nat)} (P : Pq L) {x : Nat × Nat} (h : x ∈ L) : (x.1 : Int) ∣ (per L : Int) := Int.natCast_dvd_natCast.mpr (P.p_dvd h)
theorem getP {L : List (Nat × Nat)} {j : Nat} {d : PyData} (h : (eP L)[j]? = some d) : ∃ x, L[j]? = some x ∧ d = .tuple [.int (x.1 : Int), .int (x.2 : Int)] := by
  unfold eP at h
  rw [List.getElem?_map] at h
  cases e : L[j]? with
  | none => rw [e] at h; cases h
  | some x => rw [e] at h; cases h; exact ⟨x, rfl, rfl⟩
theorem q_lt {L : List (Nat × Nat)} (P : Pq L) {x : Nat × Nat} (h : x ∈ L) : x.2 < 10 ^ 40 ∧ 0 < x.2 := by
  have h1 := Nat.le_of_dvd P.pos (dvd_per h)
  have h2 : per L < 10 ^ 40 := P.top
  exact ⟨by omega, P.q_pos h⟩
end Mini.W

set_option Elab.async false
set_option linter.all false
set_option maxRecDepth 100000
set_option maxHeartbeats 1000000
set_option exponentiation.threshold 10000
/-! Products of rows and cells. -/
namespace Mini.W
open PySem Mini
theorem dot_nil {x : List Int} : dot [] x = 0 := by simp [dot]
theorem dot_cons {a b : Int} {c x : List Int} : dot (a :: c) (b :: x) = a * b + dot c x := by simp [dot]
theorem dot_mv (k : Int) : ∀ {c x t : List Int}, x.length = c.length → t.length = c.length → dot c (mv x t k) = dot c x + k * dot c t
  | [], x, t, _, _ => by simp [dot_nil]
  | a :: c, [], _, h, _ => by simp at h
  | a :: c, _ :: _, [], _, h => by simp at h
  | a :: c, b :: x, e :: t, h1, h2 => by
    have ih := dot_mv k (c := c) (x := x) (t := t) (by simpa using h1) (by simpa using h2)
    unfold mv at ih ⊢
    rw [List.zipWith_cons_cons, dot_cons, dot_cons, dot_cons, ih, Int.mul_add, Int.mul_add, Int.mul_left_comm]
    omega
theorem mv_len {x t : List Int} {k : Int} (h : x.length = t.length) : (mv x t k).length = x.length := by
  unfold mv
  rw [List.length_zipWith]
  omega
theorem mv_mem {x t : List Int} {k z : Int} (h : z ∈ mv x t k) : ∃ a ∈ x, ∃ b ∈ t, z = a + k * b := by
  unfold mv at h
  rw [List.mem_iff_getElem] at h
  obtain ⟨i, hi, rfl⟩ := h
  rw [List.getElem_zipWith]
  rw [List.length_zipWith] at hi
  exact ⟨_, List.getElem_mem (by omega), _, List.getElem_mem (by omega), rfl⟩
theorem mul_bd {a b A B : Int} (ha : -A ≤ a ∧ a ≤ A) (hb : -B ≤ b ∧ b ≤ B) : -(A * B) ≤ a * b ∧ a * b ≤ A * B := by
  have hA : 0 ≤ A := by omega
  have hB : 0 ≤ B := by omega
  have h1 : (a * b).natAbs ≤ A.natAbs * B.natAbs := by
    rw [Int.natAbs_mul]
    exact Nat.mul_le_mul (by omega) (by omega)
  have h2 : (A * B).natAbs = A.natAbs * B.natAbs := Int.natAbs_mul _ _
  have h3 : 0 ≤ A * B := Int.mul_nonneg hA hB
  omega
theorem mv_bd {x t : List Int} {k : Int} (hx : ∀ a ∈ x, -(10 ^ 61) ≤ a ∧ a ≤ 10 ^ 61) (ht : ∀ a ∈ t, -(10 ^ 110) ≤ a ∧ a ≤ 10 ^ 110) (hk : -(10 ^ 100) ≤ k ∧ k ≤ 10 ^ 100) : Bd (mv x t k) := fun z hz => by
  obtain ⟨a, ha, b, hb, rfl⟩ := mv_mem hz
  have h1 := hx a ha
  have h2 := mul_bd hk (ht b hb)
  have e : (10 : Int) ^ 100 * 10 ^ 110 = 10 ^ 210 := by decide
  have : XB = 10 ^ 300 := rfl
  omega
theorem dot_bd {c x : List Int} (hl : c.length ≤ 3) (hc : ∀ a ∈ c, -(10 ^ 300) ≤ a ∧ a ≤ 10 ^ 300) (hx : ∀ a ∈ x, -(10 ^ 300) ≤ a ∧ a ≤ 10 ^ 300) : (dot c x).natAbs < 10 ^ 700 := by
  have key : ∀ (c x : List Int), (∀ a ∈ c, -(10 ^ 300) ≤ a ∧ a ≤ 10 ^ 300) → (∀ a ∈ x, -(10 ^ 300) ≤ a ∧ a ≤ 10 ^ 300) → -((10 : Int) ^ 600 * c.length) ≤ dot c x ∧ dot c x ≤ 10 ^ 600 * c.length := by
    intro c
    induction c with
    | nil => intro x _ _; simp [dot_nil]
    | cons a c ih =>
      intro x hc hx
      cases x with
      | nil => simp [dot]; omega
      | cons b x =>
        rw [dot_cons]
        have h1 := mul_bd (hc a List.mem_cons_self) (hx b List.mem_cons_self)
        have h2 := ih x (fun y hy => hc y (List.mem_cons_of_mem _ hy)) (fun y hy => hx y (List.mem_cons_of_mem _ hy))
        have e : (10 : Int) ^ 300 * 10 ^ 300 = 10 ^ 600 := by decide
        rw [List.length_cons, Int.natCast_add, Int.mul_add]
        omega
  have := key c x hc hx
  omega
theorem dot_congr {m u : Int} {f : Int → Int} : ∀ {c x : List Int}, (∀ a ∈ c, m ∣ f a - u * a) → m ∣ dot (c.map f) x - u * dot c x
  | [], x, _ => by simp [dot_nil]
  | a :: c, [], _ => by simp [dot]
  | a :: c, b :: x, h => by
    have ih := dot_congr (c := c) (x := x) fun y hy => h y (List.mem_cons_of_mem _ hy)
    have h1 := h a List.mem_cons_self
    rw [List.map_cons, dot_cons, dot_cons]
    have e : f a * b + dot (c.map f) x - u * (a * b + dot c x) = (f a - u * a) * b + (dot (c.map f) x - u * dot c x) := by
      rw [Int.mul_add, Int.sub_mul, Int.mul_assoc]
      omega
    rw [e]
    exact Int.dvd_add (Int.dvd_trans h1 (Int.dvd_mul_right _ _)) ih
theorem dvd_self_mod (m z : Int) : m ∣ z % m - z := by
  refine ⟨-(z / m), ?_⟩
  have := Int.emod_add_mul_ediv z m
  rw [Int.mul_neg]
  omega
/-- what is alike modulo m is on, or off, together -/
theorem mod_iff {m a b : Int} (h : m ∣ a - b) : a % m = 0 ↔ b % m = 0 := by
  rw [← Int.dvd_iff_emod_eq_zero, ← Int.dvd_iff_emod_eq_zero]
  have e : a = (a - b) + b := by omega
  constructor
  · intro k
    rw [e] at k
    exact (Int.dvd_add_right h).mp k
  · intro k
    rw [e]
    exact Int.dvd_add h k
/-- a cell's change that no row feels -/
def tT (c : List Int) (at_ near : Nat) : List Int := (List.range c.length).map fun k => if k = at_ then c.getD near 0 else if k = near then -(c.getD at_ 0) else 0
theorem dotT {c : List Int} {at_ near : Nat} (hl : c.length ≤ 3) (h1 : at_ < c.length) (h2 : near < c.length) (h : near ≠ at_) : dot c (tT c at_ near) = 0 := by
  unfold tT
  match c, hl with
  | [], _ => simp at h1
  | [a], _ => simp at h1 h2; omega
  | [a, b], _ =>
    simp only [List.length_cons, List.length_nil] at h1 h2
    have e1 : at_ = 0 ∨ at_ = 1 := by omega
    have e2 : near = 0 ∨ near = 1 := by omega
    rcases e1 with rfl | rfl <;> rcases e2 with rfl | rfl <;> first | (exact absurd rfl h) | (simp [List.range_succ, dot, Int.mul_neg, Int.mul_comm b a]; try omega)
  | [a, b, e], _ =>
    simp only [List.length_cons, List.length_nil] at h1 h2
    have e1 : at_ = 0 ∨ at_ = 1 ∨ at_ = 2 := by omega
    have e2 : near = 0 ∨ near = 1 ∨ near = 2 := by omega
    rcases e1 with rfl | rfl | rfl <;> rcases e2 with rfl | rfl | rfl <;> first | (exact absurd rfl h) | (simp [List.range_succ, dot, Int.mul_neg, Int.mul_comm b a, Int.mul_comm e a, Int.mul_comm e b]; try omega)
/-- a row times a unit -/
theorem valC_unit {L : List (Nat × Nat)} (P : Pq L) {c : List Int} (v : ValC L c) {u : Int} (hu : ∀ y ∈ L, ¬ (y.1 : Int) ∣ u) : ValC L (c.map fun a => (u * a) % (per L : Int)) := by
  have hpos := P.pos
  refine ⟨by rw [List.length_map]; exact v.len, fun x hx => ?_, fun y hy => ?_⟩
  · obtain ⟨a, _, rfl⟩ := List.mem_map.mp hx
    exact ⟨Int.emod_nonneg _ (by omega), Int.emod_lt_of_pos _ (by omega)⟩
  · obtain ⟨a, ha, na⟩ := v.cop y hy
    refine ⟨_, List.mem_map_of_mem ha, fun d => ?_⟩
    have d2 := (dvd_mod (P.dvdI hy)).mp d
    have d3 : y.1 ∣ u.natAbs * a.natAbs := by
      rw [← Int.natAbs_mul]
      have := Int.natAbs_dvd_natAbs.mpr d2
      rwa [Int.natAbs_natCast] at this
    have back : ∀ z : Int, y.1 ∣ z.natAbs → (y.1 : Int) ∣ z := fun z hz => by
      rw [← Int.natAbs_dvd_natAbs, Int.natAbs_natCast]
      exact hz
    rcases pr_mul (P.pr y hy) d3 with d3 | d3
    · exact hu y hy (back _ d3)
    · exact na (back _ d3)
/-- a row by a part of the period -/
theorem valC_part {L : List (Nat × Nat)} (P : Pq L) {c : List Int} (v : ValC L c) {x : Nat × Nat} (hx : x ∈ L) : ValC [x] (c.map fun a => a % (x.2 : Int)) := by
  have hq := P.q_pos hx
  have e : per [x] = x.2 := by simp [per, prodN]
  refine ⟨by rw [List.length_map]; exact v.len, fun z hz => ?_, fun y hy => ?_⟩
  · obtain ⟨a, _, rfl⟩ := List.mem_map.mp hz
    rw [e]
    exact ⟨Int.emod_nonneg _ (by omega), Int.emod_lt_of_pos _ (by omega)⟩
  · rw [List.mem_singleton.mp hy]
    obtain ⟨a, ha, na⟩ := v.cop x hx
    exact ⟨_, List.mem_map_of_mem ha, fun d => na ((dvd_mod (Int.natCast_dvd_natCast.mpr (P.p_dvd_q hx))).mp d)⟩
theorem prodOkN {g : List PyData → Out (PyData × List PyData)} (h : ProductOk g) {l : List Nat} (h1 : ∀ q ∈ l, 1 ≤ q) (h2 : prodN l < 10 ^ 40) : (g [.list (eN l)]).sat fun r => r = (.int (prodN l : Nat), []) := by
  have e : (l.map fun n : Nat => (n : Int)).map PyData.int = eN l := by rw [List.map_map]; rfl
  have e2 := foldl_prodN l 1
  rw [Int.one_mul] at e2
  have := h (l.map fun n : Nat => (n : Int)) (fun x hx => by
    obtain ⟨n, hn, rfl⟩ := List.mem_map.mp hx
    have := h1 n hn
    omega) (by rw [e2]; omega)
  rw [e, e2] at this
  exact this
def BdX (x : List Int) : Prop := ∀ a ∈ x, -(10 ^ 61) ≤ a ∧ a ≤ 10 ^ 61
def BdT (x : List Int) : Prop := ∀ a ∈ x, -(10 ^ 110) ≤ a ∧ a ≤ 10 ^ 110
def StepOk (g : List PyData → Out (PyData × List PyData)) : Prop := ∀ (b : Nat) (d : PyData) (L : List (Nat × Nat)) (n : Nat), Pq L → n ≤ 3 → Deck b d → b + 1000 < DL → (g [d, .list (eP L), .int n]).sat fun r => ∃ t d', r = (.tuple (eI t), [d']) ∧ t.length = n ∧ BdT t ∧ Deck (b + 1000) d'
def ComesOk (g : List PyData → Out (PyData × List PyData)) : Prop := ∀ (b : Nat) (d : PyData) (L : List (Nat × Nat)) (c : List Int) (r : Int) (x t : List Int), Pq L → ValC L c → 0 ≤ r → r < (per L : Int) → x.length = c.length → t.length = c.length → BdX x → BdT t → (dot c x - r) % (per L : Int) = 0 → Deck b d → b + 1000 < DL →
  (g [d, stripe (per L) c r, .tuple (eI x), .tuple (eI t)]).sat fun q => ∃ d', q = (.bool true, [d']) ∧ Deck (b + 1000) d'
def PartsOk (g : List PyData → Out (PyData × List PyData)) : Prop := ∀ (b : Nat) (d : PyData) (L : List (Nat × Nat)) (c : List Int) (r : Int) (x : List Int), Pq L → ValC L c → 0 ≤ r → r < (per L : Int) → x.length = c.length → BdX x → Deck b d → b + 1000 < DL →
  (g [d, .list (eP L), stripe (per L) c r, .tuple (eI x)]).sat fun q => ∃ d', q = (.bool true, [d']) ∧ Deck (b + 1000) d'
theorem atI_D {c : List Int} {i : Nat} (h : i < c.length) : L2.atI (eI c) (i : Int) = some (.int (c.getD i 0)) := by
  rw [atI_I (by omega) (by omega)]
  simp [List.getD, List.getElem?_eq_getElem h]
theorem tT_len {c : List Int} {i j : Nat} : (tT c i j).length = c.length := by unfold tT; rw [List.length_map, List.length_range]
theorem tT_bd {c : List Int} {i j : Nat} {B : Int} (hB : 0 ≤ B) (h : ∀ a ∈ c, 0 ≤ a ∧ a ≤ B) : ∀ a ∈ tT c i j, -B ≤ a ∧ a ≤ B := fun a ha => by
  have key : ∀ k : Nat, 0 ≤ c.getD k 0 ∧ c.getD k 0 ≤ B := fun k => by
    rw [List.getD_eq_getElem?_getD]
    cases e : c[k]? with
    | none => simp; omega
    | some z => simpa using h z (List.mem_of_getElem? e)
  unfold tT at ha
  obtain ⟨k, _, rfl⟩ := List.mem_map.mp ha
  have h1 := key i
  have h2 := key j
  split
  · omega
  · split <;> omega
end Mini.W

set_option maxRecDepth 100000
set_option maxHeartbeats 0
namespace K03
open PySem L2 PySem.Spec PyProof.Rows Mini
abbrev i_is_integer : Nat := 0
abbrev i_are_integers : Nat := 1
abbrev i_is_period_number : Nat := 2
abbrev i_is_cell_row : Nat := 3
abbrev i_is_cell_of : Nat := 4
abbrev i_product_at : Nat := 5
abbrev i_is_class_row : Nat := 6
abbrev i_is_stripe_row : Nat := 7
abbrev i_lies_on : Nat := 8
abbrev i_need_stripes : Nat := 9
abbrev i_is_on : Nat := 10
abbrev i_law_deck : Nat := 11
abbrev i_law_draw : Nat := 12
abbrev i_law_pick : Nat := 13
abbrev i_law_great : Nat := 14
abbrev i_law_signed : Nat := 15
abbrev i_law_powers : Nat := 16
abbrev i_law_product : Nat := 17
abbrev i_law_numbers : Nat := 18
abbrev i_law_unit : Nat := 19
abbrev i_law_along : Nat := 20
abbrev i_law_common : Nat := 21
abbrev i_law_moved : Nat := 22
abbrev i_law_is_due : Nat := 23
abbrev i_law_step : Nat := 24
abbrev i_law_comes_again : Nat := 25
abbrev i_law_is_of_parts : Nat := 26
abbrev i_law : Nat := 27
def s_is_integer_0 : MS := (.ret (.and (.blt (.isi ["int"]) (.cons (.var 0) .nil)) (.op1 .not (.blt (.isi ["bool"]) (.cons (.var 0) .nil)))))
/-- 0, place 9 of the text -/
def d_is_integer : Df where
  nm := "is_integer"
  N := ["thing"]
  ps := ["thing"]
  ms := [0]
  ret := 0
  kws := [(1, [], [0])]
  body := s_is_integer_0
def s_are_integers_0 : MS := (.ret (.and (.blt (.isi ["tuple"]) (.cons (.var 0) .nil)) (.blt .all (.cons (.comp [("item", 1)] (.nm 1) (.val (.var 0)) (.cst (.bool true)) (.call i_is_integer 0 [none] (.cons (.var 1) .nil) .nil [0])) .nil))))
/-- 1, place 10 of the text -/
def d_are_integers : Df where
  nm := "are_integers"
  N := ["thing", "item"]
  ps := ["thing"]
  ms := [0]
  ret := 0
  kws := [(1, [], [0])]
  body := s_are_integers_0
def s_is_period_number_0t_0 : MS := (.ret (.cst (.bool false)))
def b_is_period_number_0t : MS := s_is_period_number_0t_0
def s_is_period_number_0 : MS := (.ifs (.or (.op1 .not (.call i_is_integer 0 [none] (.cons (.var 0) .nil) .nil [0])) (.op2 .lt (.var 0) (.cst (.int 1)))) b_is_period_number_0t .skp)
def s_is_period_number_1 : MS := (.par [(0, 1), (0, 2)] (.cons (.cst (.int 1)) (.cons (.var 0) .nil)))
def s_is_period_number_2b_0t_0 : MS := (.asg (.nm 1) (.op2 .mul (.var 1) (.var 3)))
def s_is_period_number_2b_0t_1b_0 : MS := (.asg (.nm 2) (.op2 .fdv (.var 2) (.var 3)))
def b_is_period_number_2b_0t_1b : MS := s_is_period_number_2b_0t_1b_0
def s_is_period_number_2b_0t_1 : MS := (.whl (.op2 .eq (.op2 .mod (.var 2) (.var 3)) (.cst (.int 0))) b_is_period_number_2b_0t_1b)
def b_is_period_number_2b_0t : MS := (.seq s_is_period_number_2b_0t_0 s_is_period_number_2b_0t_1)
def s_is_period_number_2b_0 : MS := (.ifs (.op2 .eq (.op2 .mod (.var 2) (.var 3)) (.cst (.int 0))) b_is_period_number_2b_0t .skp)
def b_is_period_number_2b : MS := s_is_period_number_2b_0
def s_is_period_number_2 : MS := (.lop (.nm 3) (.rng2 (.cst (.int 2)) (.glb "MOST_PRIME" (30))) b_is_period_number_2b)
def s_is_period_number_3 : MS := (.ret (.and (.op2 .eq (.var 2) (.cst (.int 1))) (.op2 .le (.var 1) (.glb "MOST_ROOT" (1000)))))
/-- 2, place 11 of the text -/
def d_is_period_number : Df where
  nm := "is_period_number"
  N := ["thing", "root", "left", "prime"]
  ps := ["thing"]
  ms := [0]
  ret := 0
  kws := [(1, [], [0])]
  body := (.seq s_is_period_number_0 (.seq s_is_period_number_1 (.seq s_is_period_number_2 s_is_period_number_3)))
def s_is_cell_row_0 : MS := (.ret (.and (.call i_are_integers 0 [none] (.cons (.var 0) .nil) .nil [0]) (.chn .le .le (.cst (.int 1)) (.blt .len (.cons (.var 0) .nil)) (.glb "MOST_BREADTH" (3)))))
/-- 3, place 12 of the text -/
def d_is_cell_row : Df where
  nm := "is_cell_row"
  N := ["thing"]
  ps := ["thing"]
  ms := [0]
  ret := 0
  kws := [(1, [], [0])]
  body := s_is_cell_row_0
def s_is_cell_of_0 : MS := (.ret (.and (.call i_is_cell_row 0 [none] (.cons (.var 0) .nil) .nil [0]) (.or (.op2 .isn (.var 1) (.cst .none)) (.op2 .eq (.blt .len (.cons (.var 0) .nil)) (.var 1)))))
/-- 4, place 13 of the text -/
def d_is_cell_of : Df where
  nm := "is_cell_of"
  N := ["thing", "breadth"]
  ps := ["thing", "breadth"]
  ms := [0, 0]
  ret := 0
  kws := [(2, [], [0, 1])]
  body := s_is_cell_of_0
def s_product_at_0 : MS := (.ret (.blt .sum (.cons (.comp [("one", 2), ("other", 3)] (.tup (.cons (.nm 2) (.cons (.nm 3) .nil))) (.zip (.var 0) (.var 1)) (.cst (.bool true)) (.op2 .mul (.var 2) (.var 3))) .nil)))
/-- 5, place 14 of the text -/
def d_product_at : Df where
  nm := "product_at"
  N := ["row", "cell", "one", "other"]
  ps := ["row", "cell"]
  ms := [0, 0]
  ret := 0
  kws := [(2, [], [0, 1])]
  body := s_product_at_0
def s_is_class_row_0t_0 : MS := (.ret (.cst (.bool false)))
def b_is_class_row_0t : MS := s_is_class_row_0t_0
def s_is_class_row_0 : MS := (.ifs (.or (.op1 .not (.call i_is_cell_row 0 [none] (.cons (.var 1) .nil) .nil [0])) (.op1 .not (.blt .all (.cons (.comp [("number", 3)] (.nm 3) (.val (.var 1)) (.cst (.bool true)) (.chn .le .lt (.cst (.int 0)) (.var 3) (.var 0))) .nil)))) b_is_class_row_0t .skp)
def s_is_class_row_1 : MS := (.asg (.nm 2) (.var 0))
def s_is_class_row_2b_0 : MS := (.asg (.nm 2) (.blt .gcd (.cons (.var 2) (.cons (.var 3) .nil))))
def b_is_class_row_2b : MS := s_is_class_row_2b_0
def s_is_class_row_2 : MS := (.lop (.nm 3) (.val (.var 1)) b_is_class_row_2b)
def s_is_class_row_3 : MS := (.ret (.op2 .eq (.var 2) (.cst (.int 1))))
/-- 6, place 15 of the text -/
def d_is_class_row : Df where
  nm := "is_class_row"
  N := ["period", "thing", "common", "number"]
  ps := ["period", "thing"]
  ms := [0, 0]
  ret := 0
  kws := [(2, [], [0, 1])]
  body := (.seq s_is_class_row_0 (.seq s_is_class_row_1 (.seq s_is_class_row_2 s_is_class_row_3)))
def s_is_stripe_row_0t_0 : MS := (.ret (.cst (.bool false)))
def b_is_stripe_row_0t : MS := s_is_stripe_row_0t_0
def s_is_stripe_row_0 : MS := (.ifs (.or (.op1 .not (.blt (.isi ["tuple"]) (.cons (.var 0) .nil))) (.or (.op2 .ne (.blt .len (.cons (.var 0) .nil)) (.cst (.int 3))) (.op1 .not (.call i_is_period_number 0 [none] (.cons (.sub (.var 0) (.cst (.int 0))) .nil) .nil [0])))) b_is_stripe_row_0t .skp)
def s_is_stripe_row_1 : MS := (.ret (.and (.call i_is_class_row 0 [none, none] (.cons (.sub (.var 0) (.cst (.int 0))) (.cons (.sub (.var 0) (.cst (.int 1))) .nil)) .nil [0, 1]) (.and (.call i_is_integer 0 [none] (.cons (.sub (.var 0) (.cst (.int 2))) .nil) .nil [0]) (.chn .le .lt (.cst (.int 0)) (.sub (.var 0) (.cst (.int 2))) (.sub (.var 0) (.cst (.int 0)))))))
/-- 7, place 16 of the text -/
def d_is_stripe_row : Df where
  nm := "is_stripe_row"
  N := ["thing"]
  ps := ["thing"]
  ms := [0]
  ret := 0
  kws := [(1, [], [0])]
  body := (.seq s_is_stripe_row_0 s_is_stripe_row_1)
def s_lies_on_0 : MS := (.ret (.op2 .eq (.op2 .mod (.op2 .sub (.call i_product_at 0 [none, none] (.cons (.sub (.var 0) (.cst (.int 1))) (.cons (.var 1) .nil)) .nil [0, 1]) (.sub (.var 0) (.cst (.int 2)))) (.sub (.var 0) (.cst (.int 0)))) (.cst (.int 0))))
/-- 8, place 17 of the text -/
def d_lies_on : Df where
  nm := "lies_on"
  N := ["stripe", "cell"]
  ps := ["stripe", "cell"]
  ms := [0, 0]
  ret := 0
  kws := [(2, [], [0, 1])]
  body := s_lies_on_0
def s_need_stripes_0b_0t_0 : MS := .nvr
def b_need_stripes_0b_0t : MS := s_need_stripes_0b_0t_0
def s_need_stripes_0b_0 : MS := (.ifs (.op1 .not (.call i_is_stripe_row 0 [none] (.cons (.var 1) .nil) .nil [0])) b_need_stripes_0b_0t .skp)
def b_need_stripes_0b : MS := s_need_stripes_0b_0
def s_need_stripes_0 : MS := (.lop (.nm 1) (.val (.var 0)) b_need_stripes_0b)
/-- 9, place 19 of the text -/
def d_need_stripes : Df where
  nm := "need_stripes"
  N := ["things", "thing"]
  ps := ["things"]
  ms := [0]
  ret := 0
  kws := [(1, [], [0])]
  body := s_need_stripes_0
def s_is_on_0 : MS := (.exp (.call i_need_stripes 0 [none] (.cons (.tup (.cons (.var 0) .nil)) .nil) .nil [0]))
def s_is_on_1t_0 : MS := .nvr
def b_is_on_1t : MS := s_is_on_1t_0
def s_is_on_1 : MS := (.ifs (.op1 .not (.call i_is_cell_of 0 [none, none] (.cons (.var 1) (.cons (.blt .len (.cons (.sub (.var 0) (.cst (.int 1))) .nil)) .nil)) .nil [0, 1])) b_is_on_1t .skp)
def s_is_on_2 : MS := (.ret (.call i_lies_on 0 [none, none] (.cons (.var 0) (.cons (.var 1) .nil)) .nil [0, 1]))
/-- 10, place 20 of the text -/
def d_is_on : Df where
  nm := "is_on"
  N := ["stripe", "cell"]
  ps := ["stripe", "cell"]
  ms := [0, 0]
  ret := 0
  kws := [(2, [], [0, 1]), (0, ["cell", "stripe"], [1, 0])]
  body := (.seq s_is_on_0 (.seq s_is_on_1 s_is_on_2))
def s_law_deck_0 : MS := (.asg (.nm 1) (.cst (.int 10895003)))
def s_law_deck_1b_0 : MS := (.asg (.nm 1) (.op2 .mod (.blt .int (.cons (.op2 .add (.op2 .add (.op2 .mul (.var 1) (.cst (.int 48271))) (.op2 .mod (.blt .int (.cons (.var 2) .nil)) (.cst (.int 2147483629)))) (.cst (.int 83))) .nil)) (.cst (.int 2147483587))))
def b_law_deck_1b : MS := s_law_deck_1b_0
def s_law_deck_1 : MS := (.lop (.nm 2) (.val (.slc (.var 0) .nop (.cst (.int 63)))) b_law_deck_1b)
def s_law_deck_2 : MS := (.ret (.dsp ["cells", "mixed", "draws"] (.cons (.rev (.blt .list (.cons (.slc (.var 0) .nop (.cst (.int 63))) .nil))) (.cons (.flat (.var 1)) (.cons (.cst (.int 0)) .nil)))))
/-- 11, place 22 of the text -/
def d_law_deck : Df where
  nm := "_law_deck"
  N := ["_law_script", "_law_mixed", "_law_cell"]
  ps := ["_law_script"]
  ms := [0]
  ret := 2
  kws := [(1, [], [0])]
  body := (.seq s_law_deck_0 (.seq s_law_deck_1 s_law_deck_2))
def s_law_draw_0 : MS := (.setK 2 0 "draws" (.op2 .add (.key (.bor 2 0) "draws") (.cst (.int 1))))
def s_law_draw_1 : MS := (.asg (.nm 2) (.op2 .add (.key (.bor 2 0) "mixed") (.op2 .mul (.cst (.int 66047)) (.key (.bor 2 0) "draws"))))
def s_law_draw_2t_0 : MS := (.asg (.nm 3) (.pop 2 0 (some "cells")))
def s_law_draw_2t_1t_0 : MS := (.app 2 0 (some "cells") (.op2 .fdv (.var 3) (.blt .max2 (.cons (.cst (.int 2)) (.cons (.var 1) .nil)))))
def s_law_draw_2t_1t_1 : MS := (.ret (.op2 .mod (.blt .int (.cons (.var 3) .nil)) (.var 1)))
def b_law_draw_2t_1t : MS := (.seq s_law_draw_2t_1t_0 s_law_draw_2t_1t_1)
def s_law_draw_2t_1 : MS := (.ifs (.op2 .ge (.var 3) (.op2 .pow (.cst (.int 10)) (.cst (.int 18)))) b_law_draw_2t_1t .skp)
def s_law_draw_2t_2 : MS := (.asg (.nm 2) (.op2 .add (.var 2) (.op2 .mod (.blt .int (.cons (.var 3) .nil)) (.cst (.int 2147483629)))))
def b_law_draw_2t : MS := (.seq s_law_draw_2t_0 (.seq s_law_draw_2t_1 s_law_draw_2t_2))
def s_law_draw_2 : MS := (.ifs (.op2 .ne (.key (.bor 2 0) "cells") (.lst .nil)) b_law_draw_2t .skp)
def s_law_draw_3 : MS := (.asg (.nm 2) (.op2 .mod (.blt .int (.cons (.op2 .add (.op2 .mul (.var 2) (.cst (.int 39373))) (.cst (.int 83))) .nil)) (.cst (.int 2147483647))))
def s_law_draw_4 : MS := (.asg (.nm 2) (.op2 .mod (.blt .int (.cons (.op2 .add (.op2 .add (.op2 .mul (.var 2) (.var 2)) (.op2 .mul (.cst (.int 49277)) (.key (.bor 2 0) "draws"))) (.cst (.int 19))) .nil)) (.cst (.int 2147483587))))
def s_law_draw_5 : MS := (.asg (.nm 2) (.op2 .mod (.blt .int (.cons (.op2 .mul (.var 2) (.cst (.int 40692))) .nil)) (.cst (.int 2147483563))))
def s_law_draw_6 : MS := (.ret (.op2 .mod (.blt .int (.cons (.op2 .fdv (.var 2) (.cst (.int 64))) .nil)) (.var 1)))
/-- 12, place 23 of the text -/
def d_law_draw : Df where
  nm := "_law_draw"
  N := ["_law_deck_here", "_law_many", "_law_number", "_law_cell"]
  ps := ["_law_deck_here", "_law_many"]
  ms := [2, 0]
  ret := 0
  kws := [(2, [], [0, 1])]
  body := (.seq s_law_draw_0 (.seq s_law_draw_1 (.seq s_law_draw_2 (.seq s_law_draw_3 (.seq s_law_draw_4 (.seq s_law_draw_5 s_law_draw_6))))))
def s_law_pick_0 : MS := (.ret (.sub (.var 1) (.call i_law_draw 0 [some (2, 0), none] (.cons (.iou 2 0) (.cons (.blt .len (.cons (.var 1) .nil)) .nil)) .nil [0, 1])))
/-- 13, place 24 of the text -/
def d_law_pick : Df where
  nm := "_law_pick"
  N := ["_law_deck_here", "_law_some"]
  ps := ["_law_deck_here", "_law_some"]
  ms := [2, 0]
  ret := 0
  kws := [(2, [], [0, 1])]
  body := s_law_pick_0
def s_law_great_0t_0 : MS := (.ret (.call i_law_draw 0 [some (2, 0), none] (.cons (.iou 2 0) (.cons (.var 1) .nil)) .nil [0, 1]))
def b_law_great_0t : MS := s_law_great_0t_0
def s_law_great_0 : MS := (.ifs (.op2 .le (.var 1) (.op2 .pow (.cst (.int 10)) (.cst (.int 6)))) b_law_great_0t .skp)
def s_law_great_1 : MS := (.par [(0, 2), (0, 3)] (.cons (.cst (.int 0)) (.cons (.cst (.int 1)) .nil)))
def s_law_great_2b_0 : MS := (.par [(0, 2), (0, 3)] (.cons (.op2 .add (.op2 .mul (.var 2) (.op2 .pow (.cst (.int 10)) (.cst (.int 6)))) (.call i_law_draw 0 [some (2, 0), none] (.cons (.iou 2 0) (.cons (.op2 .pow (.cst (.int 10)) (.cst (.int 6))) .nil)) .nil [0, 1])) (.cons (.op2 .mul (.var 3) (.op2 .pow (.cst (.int 10)) (.cst (.int 6)))) .nil)))
def b_law_great_2b : MS := s_law_great_2b_0
def s_law_great_2 : MS := (.whl (.op2 .lt (.var 3) (.var 1)) b_law_great_2b)
def s_law_great_3 : MS := (.ret (.op2 .mod (.var 2) (.var 1)))
/-- 14, place 25 of the text -/
def d_law_great : Df where
  nm := "_law_great"
  N := ["_law_deck_here", "_law_top", "_law_found", "_law_room"]
  ps := ["_law_deck_here", "_law_top"]
  ms := [2, 0]
  ret := 0
  kws := [(2, [], [0, 1])]
  body := (.seq s_law_great_0 (.seq s_law_great_1 (.seq s_law_great_2 s_law_great_3)))
def s_law_signed_0 : MS := (.asg (.nm 2) (.call i_law_draw 0 [some (2, 0), none] (.cons (.iou 2 0) (.cons (.cst (.int 5)) .nil)) .nil [0, 1]))
def s_law_signed_1t_0 : MS := (.ret (.op2 .sub (.call i_law_draw 0 [some (2, 0), none] (.cons (.iou 2 0) (.cons (.cst (.int 9)) .nil)) .nil [0, 1]) (.cst (.int 4))))
def b_law_signed_1t : MS := s_law_signed_1t_0
def s_law_signed_1 : MS := (.ifs (.op2 .eq (.var 2) (.cst (.int 0))) b_law_signed_1t .skp)
def s_law_signed_2 : MS := (.asg (.nm 3) (.ife (.op2 .eq (.var 2) (.cst (.int 1))) (.op2 .sub (.op2 .sub (.var 1) (.cst (.int 1))) (.call i_law_draw 0 [some (2, 0), none] (.cons (.iou 2 0) (.cons (.cst (.int 3)) .nil)) .nil [0, 1])) (.call i_law_great 0 [some (2, 0), none] (.cons (.iou 2 0) (.cons (.var 1) .nil)) .nil [0, 1])))
def s_law_signed_3 : MS := (.ret (.ife (.op2 .eq (.call i_law_draw 0 [some (2, 0), none] (.cons (.iou 2 0) (.cons (.cst (.int 2)) .nil)) .nil [0, 1]) (.cst (.int 0))) (.var 3) (.op1 .neg (.var 3))))
/-- 15, place 26 of the text -/
def d_law_signed : Df where
  nm := "_law_signed"
  N := ["_law_deck_here", "_law_top", "_law_way", "_law_number"]
  ps := ["_law_deck_here", "_law_top"]
  ms := [2, 0]
  ret := 0
  kws := [(2, [], [0, 1])]
  body := (.seq s_law_signed_0 (.seq s_law_signed_1 (.seq s_law_signed_2 s_law_signed_3)))
def s_law_powers_0 : MS := (.par [(0, 3), (0, 4), (0, 5), (1, 6)] (.cons (.lst (.cons (.cst (.int 2)) (.cons (.cst (.int 2)) (.cons (.cst (.int 3)) (.cons (.cst (.int 3)) (.cons (.cst (.int 5)) (.cons (.cst (.int 7)) (.cons (.cst (.int 11)) (.cons (.cst (.int 13)) (.cons (.cst (.int 17)) (.cons (.cst (.int 19)) (.cons (.cst (.int 23)) (.cons (.cst (.int 29)) .nil))))))))))))) (.cons (.cst (.int 1)) (.cons (.var 2) (.cons (.lst .nil) .nil)))))
def s_law_powers_1 : MS := (.asg (.nm 7) (.call i_law_draw 0 [some (2, 0), none] (.cons (.iou 2 0) (.cons (.cst (.int 4)) .nil)) .nil [0, 1]))
def s_law_powers_2b_0 : MS := (.asg (.nm 10) (.call i_law_pick 0 [some (2, 0), none] (.cons (.iou 2 0) (.cons (.var 3) .nil)) .nil [0, 1]))
def s_law_powers_2b_1t_0 : MS := (.app 1 6 none (.var 10))
def s_law_powers_2b_1t_1 : MS := (.par [(0, 4), (0, 5)] (.cons (.op2 .mul (.var 4) (.var 10)) (.cons (.op2 .fdv (.var 5) (.var 10)) .nil)))
def b_law_powers_2b_1t : MS := (.seq s_law_powers_2b_1t_0 s_law_powers_2b_1t_1)
def s_law_powers_2b_1 : MS := (.ifs (.and (.op2 .nin (.var 10) (.bor 1 6)) (.and (.op2 .le (.var 10) (.var 5)) (.op2 .lt (.op2 .mul (.var 4) (.var 10)) (.var 1)))) b_law_powers_2b_1t .skp)
def b_law_powers_2b : MS := (.seq s_law_powers_2b_0 s_law_powers_2b_1)
def s_law_powers_2 : MS := (.lop (.nm 8) (.rng1 (.call i_law_pick 0 [some (2, 0), none] (.cons (.iou 2 0) (.cons (.lst (.cons (.cst (.int 0)) (.cons (.cst (.int 1)) (.cons (.cst (.int 1)) (.cons (.cst (.int 2)) (.cons (.cst (.int 2)) (.cons (.cst (.int 3)) (.cons (.cst (.int 4)) (.cons (.cst (.int 6)) (.cons (.cst (.int 6)) .nil)))))))))) .nil)) .nil [0, 1])) b_law_powers_2b)
def s_law_powers_3 : MS := (.fre 1 9 (.lst .nil))
def s_law_powers_4b_0 : MS := (.asg (.nm 11) (.var 10))
def s_law_powers_4b_1b_0t_0 : MS := (.par [(0, 11), (0, 4)] (.cons (.op2 .mul (.var 11) (.var 10)) (.cons (.op2 .mul (.var 4) (.var 10)) .nil)))
def b_law_powers_4b_1b_0t : MS := s_law_powers_4b_1b_0t_0
def s_law_powers_4b_1b_0 : MS := (.ifs (.op2 .lt (.op2 .mul (.var 4) (.var 10)) (.var 1)) b_law_powers_4b_1b_0t .skp)
def b_law_powers_4b_1b : MS := s_law_powers_4b_1b_0
def s_law_powers_4b_1 : MS := (.lop (.nm 8) (.rng1 (.call i_law_draw 0 [some (2, 0), none] (.cons (.iou 2 0) (.cons (.sub (.lst (.cons (.cst (.int 1)) (.cons (.cst (.int 3)) (.cons (.cst (.int 14)) (.cons (.cst (.int 140)) .nil))))) (.var 7)) .nil)) .nil [0, 1])) b_law_powers_4b_1b)
def s_law_powers_4b_2 : MS := (.app 1 9 none (.tup (.cons (.var 10) (.cons (.var 11) .nil))))
def b_law_powers_4b : MS := (.seq s_law_powers_4b_0 (.seq s_law_powers_4b_1 s_law_powers_4b_2))
def s_law_powers_4 : MS := (.lop (.nm 10) (.val (.blt .sort (.cons (.bor 1 6) .nil))) b_law_powers_4b)
def s_law_powers_5 : MS := (.ret (.frz 9))
/-- 16, place 27 of the text -/
def d_law_powers : Df where
  nm := "_law_powers"
  N := ["_law_deck_here", "_law_top", "_law_most", "_law_some", "_law_product_here", "_law_rest", "_law_found", "_law_way", "_law_turn", "_law_pairs", "_law_p", "_law_q"]
  ps := ["_law_deck_here", "_law_top", "_law_most"]
  ms := [2, 0, 0]
  ret := 0
  kws := [(3, [], [0, 1, 2])]
  body := (.seq s_law_powers_0 (.seq s_law_powers_1 (.seq s_law_powers_2 (.seq s_law_powers_3 (.seq s_law_powers_4 s_law_powers_5)))))
def s_law_product_0 : MS := (.asg (.nm 1) (.cst (.int 1)))
def s_law_product_1b_0 : MS := (.asg (.nm 1) (.op2 .mul (.var 1) (.var 2)))
def b_law_product_1b : MS := s_law_product_1b_0
def s_law_product_1 : MS := (.lop (.nm 2) (.val (.var 0)) b_law_product_1b)
def s_law_product_2 : MS := (.ret (.var 1))
/-- 17, place 28 of the text -/
def d_law_product : Df where
  nm := "_law_product"
  N := ["_law_some", "_law_found", "_law_x"]
  ps := ["_law_some"]
  ms := [0]
  ret := 0
  kws := [(1, [], [0])]
  body := (.seq s_law_product_0 (.seq s_law_product_1 s_law_product_2))
def s_law_numbers_0 : MS := (.fre 1 4 (.lst .nil))
def s_law_numbers_1b_0 : MS := (.par [(0, 8), (0, 9)] (.cons (.call i_law_draw 0 [some (2, 0), none] (.cons (.iou 2 0) (.cons (.cst (.int 6)) .nil)) .nil [0, 1]) (.cons (.call i_law_great 0 [some (2, 0), none] (.cons (.iou 2 0) (.cons (.var 2) .nil)) .nil [0, 1]) .nil)))
def s_law_numbers_1b_1b_0t_0 : MS := (.asg (.nm 9) (.op2 .mul (.var 9) (.call i_law_pick 0 [some (2, 0), none] (.cons (.iou 2 0) (.cons (.lst (.cons (.var 6) (.cons (.op2 .mul (.var 6) (.var 6)) (.cons (.op2 .fdv (.var 7) (.var 6)) (.cons (.var 7) .nil))))) .nil)) .nil [0, 1])))
def b_law_numbers_1b_1b_0t : MS := s_law_numbers_1b_1b_0t_0
def s_law_numbers_1b_1b_0 : MS := (.ifs (.and (.op2 .gt (.var 8) (.cst (.int 2))) (.op2 .eq (.call i_law_draw 0 [some (2, 0), none] (.cons (.iou 2 0) (.cons (.cst (.int 3)) .nil)) .nil [0, 1]) (.cst (.int 0)))) b_law_numbers_1b_1b_0t .skp)
def b_law_numbers_1b_1b : MS := s_law_numbers_1b_1b_0
def s_law_numbers_1b_1 : MS := (.lop (.tup (.cons (.nm 6) (.cons (.nm 7) .nil))) (.val (.var 1)) b_law_numbers_1b_1b)
def s_law_numbers_1b_2 : MS := (.app 1 4 none (.op2 .mod (.blt .int (.cons (.ife (.op2 .eq (.var 8) (.cst (.int 0))) (.cst (.int 0)) (.var 9)) .nil)) (.var 2)))
def b_law_numbers_1b : MS := (.seq s_law_numbers_1b_0 (.seq s_law_numbers_1b_1 s_law_numbers_1b_2))
def s_law_numbers_1 : MS := (.lop (.nm 5) (.rng1 (.var 3)) b_law_numbers_1b)
def s_law_numbers_2b_0t_0 : MS := (.asg (.nm 5) (.call i_law_draw 0 [some (2, 0), none] (.cons (.iou 2 0) (.cons (.var 3) .nil)) .nil [0, 1]))
def s_law_numbers_2b_0t_1 : MS := (.set 1 4 (.var 5) (.op2 .mod (.blt .int (.cons (.op2 .add (.sub (.bor 1 4) (.var 5)) (.op2 .fdv (.var 2) (.var 7))) .nil)) (.var 2)))
def b_law_numbers_2b_0t : MS := (.seq s_law_numbers_2b_0t_0 s_law_numbers_2b_0t_1)
def s_law_numbers_2b_0 : MS := (.ifs (.op2 .eq (.comp [("_law_x", 10)] (.nm 10) (.val (.bor 1 4)) (.op2 .gt (.op2 .mod (.blt .int (.cons (.var 10) .nil)) (.var 6)) (.cst (.int 0))) (.var 10)) (.lst .nil)) b_law_numbers_2b_0t .skp)
def b_law_numbers_2b : MS := s_law_numbers_2b_0
def s_law_numbers_2 : MS := (.lop (.tup (.cons (.nm 6) (.cons (.nm 7) .nil))) (.val (.var 1)) b_law_numbers_2b)
def s_law_numbers_3 : MS := (.ret (.blt .tupl (.cons (.bor 1 4) .nil)))
/-- 18, place 29 of the text -/
def d_law_numbers : Df where
  nm := "_law_numbers"
  N := ["_law_deck_here", "_law_powers_here", "_law_m", "_law_d", "_law_found", "_law_at", "_law_p", "_law_q", "_law_way", "_law_number", "_law_x"]
  ps := ["_law_deck_here", "_law_powers_here", "_law_m", "_law_d"]
  ms := [2, 0, 0, 0]
  ret := 0
  kws := [(4, [], [0, 1, 2, 3])]
  body := (.seq s_law_numbers_0 (.seq s_law_numbers_1 (.seq s_law_numbers_2 s_law_numbers_3)))
def s_law_unit_0 : MS := (.asg (.nm 3) (.call i_law_great 0 [some (2, 0), none] (.cons (.iou 2 0) (.cons (.var 2) .nil)) .nil [0, 1]))
def s_law_unit_1b_0t_0 : MS := (.asg (.nm 3) (.op2 .add (.var 3) (.op2 .fdv (.var 2) (.var 5))))
def b_law_unit_1b_0t : MS := s_law_unit_1b_0t_0
def s_law_unit_1b_0 : MS := (.ifs (.op2 .eq (.op2 .mod (.blt .int (.cons (.var 3) .nil)) (.var 4)) (.cst (.int 0))) b_law_unit_1b_0t .skp)
def b_law_unit_1b : MS := s_law_unit_1b_0
def s_law_unit_1 : MS := (.lop (.tup (.cons (.nm 4) (.cons (.nm 5) .nil))) (.val (.var 1)) b_law_unit_1b)
def s_law_unit_2 : MS := (.ret (.var 3))
/-- 19, place 30 of the text -/
def d_law_unit : Df where
  nm := "_law_unit"
  N := ["_law_deck_here", "_law_powers_here", "_law_m", "_law_number", "_law_p", "_law_q"]
  ps := ["_law_deck_here", "_law_powers_here", "_law_m"]
  ms := [2, 0, 0]
  ret := 0
  kws := [(3, [], [0, 1, 2])]
  body := (.seq s_law_unit_0 (.seq s_law_unit_1 s_law_unit_2))
def s_law_along_0 : MS := (.ret (.blt .sum (.cons (.comp [("_law_one", 2), ("_law_other", 3)] (.tup (.cons (.nm 2) (.cons (.nm 3) .nil))) (.zip (.var 0) (.var 1)) (.cst (.bool true)) (.op2 .mul (.var 2) (.var 3))) .nil)))
/-- 20, place 31 of the text -/
def d_law_along : Df where
  nm := "_law_along"
  N := ["_law_c", "_law_x", "_law_one", "_law_other"]
  ps := ["_law_c", "_law_x"]
  ms := [0, 0]
  ret := 0
  kws := [(2, [], [0, 1])]
  body := s_law_along_0
def s_law_common_0 : MS := (.par [(0, 0), (0, 1)] (.cons (.blt .abs (.cons (.var 0) .nil)) (.cons (.blt .abs (.cons (.var 1) .nil)) .nil)))
def s_law_common_1b_0 : MS := (.par [(0, 0), (0, 1)] (.cons (.var 1) (.cons (.op2 .mod (.blt .int (.cons (.var 0) .nil)) (.var 1)) .nil)))
def b_law_common_1b : MS := s_law_common_1b_0
def s_law_common_1 : MS := (.whl (.op2 .gt (.var 1) (.cst (.int 0))) b_law_common_1b)
def s_law_common_2 : MS := (.ret (.var 0))
/-- 21, place 32 of the text -/
def d_law_common : Df where
  nm := "_law_common"
  N := ["_law_one", "_law_other"]
  ps := ["_law_one", "_law_other"]
  ms := [0, 0]
  ret := 0
  kws := [(2, [], [0, 1])]
  body := (.seq s_law_common_0 (.seq s_law_common_1 s_law_common_2))
def s_law_moved_0 : MS := (.ret (.blt .tupl (.cons (.comp [("_law_one", 3), ("_law_step_here", 4)] (.tup (.cons (.nm 3) (.cons (.nm 4) .nil))) (.zip (.var 0) (.var 1)) (.cst (.bool true)) (.op2 .add (.var 3) (.op2 .mul (.var 2) (.var 4)))) .nil)))
/-- 22, place 33 of the text -/
def d_law_moved : Df where
  nm := "_law_moved"
  N := ["_law_x", "_law_t", "_law_k", "_law_one", "_law_step_here"]
  ps := ["_law_x", "_law_t", "_law_k"]
  ms := [0, 0, 0]
  ret := 0
  kws := [(3, [], [0, 1, 2])]
  body := s_law_moved_0
def s_law_is_due_0 : MS := (.ret (.op2 .eq (.blt .repr (.cons (.tup (.cons (.call i_is_on 0 [none, none] (.cons (.var 0) (.cons (.var 1) .nil)) .nil [0, 1]) (.cons (.call i_is_on 0 [none, none] .nil (.cons (.var 1) (.cons (.var 0) .nil)) [1, 0]) .nil))) .nil)) (.blt .repr (.cons (.tup (.cons (.var 2) (.cons (.var 2) .nil))) .nil))))
/-- 23, place 34 of the text -/
def d_law_is_due : Df where
  nm := "_law_is_due"
  N := ["_law_stripe", "_law_cell", "_law_due"]
  ps := ["_law_stripe", "_law_cell", "_law_due"]
  ms := [0, 0, 0]
  ret := 0
  kws := [(3, [], [0, 1, 2])]
  body := s_law_is_due_0
def s_law_step_0 : MS := (.asg (.nm 3) (.call i_law_product 0 [none] (.cons (.comp [("_law_p", 4), ("_law_q", 5)] (.tup (.cons (.nm 4) (.cons (.nm 5) .nil))) (.val (.var 1)) (.op2 .eq (.call i_law_draw 0 [some (2, 0), none] (.cons (.iou 2 0) (.cons (.cst (.int 3)) .nil)) .nil [0, 1]) (.cst (.int 0))) (.var 5)) .nil) .nil [0]))
def s_law_step_1 : MS := (.ret (.blt .tupl (.cons (.comp [("_law_at", 6)] (.nm 6) (.rng1 (.var 2)) (.cst (.bool true)) (.op2 .mul (.call i_law_signed 0 [some (2, 0), none] (.cons (.iou 2 0) (.cons (.op2 .pow (.cst (.int 10)) (.cst (.int 10))) .nil)) .nil [0, 1]) (.var 3))) .nil)))
/-- 24, place 35 of the text -/
def d_law_step : Df where
  nm := "_law_step"
  N := ["_law_deck_here", "_law_powers_here", "_law_d", "_law_some", "_law_p", "_law_q", "_law_at"]
  ps := ["_law_deck_here", "_law_powers_here", "_law_d"]
  ms := [2, 0, 0]
  ret := 0
  kws := [(3, [], [0, 1, 2])]
  body := (.seq s_law_step_0 s_law_step_1)
def s_law_comes_again_0 : MS := (.asg (.tup (.cons (.nm 4) (.cons (.nm 5) (.cons (.nm 6) .nil)))) (.var 1))
def s_law_comes_again_1 : MS := (.asg (.nm 7) (.op2 .fdv (.var 4) (.call i_law_common 0 [none, none] (.cons (.var 4) (.cons (.call i_law_along 0 [none, none] (.cons (.var 5) (.cons (.var 3) .nil)) .nil [0, 1]) .nil)) .nil [0, 1])))
def s_law_comes_again_2b_0t_0 : MS := (.ret (.cst (.bool false)))
def b_law_comes_again_2b_0t : MS := s_law_comes_again_2b_0t_0
def s_law_comes_again_2b_0 : MS := (.ifs (.op1 .not (.call i_law_is_due 0 [none, none, none] (.cons (.var 1) (.cons (.call i_law_moved 0 [none, none, none] (.cons (.var 2) (.cons (.var 3) (.cons (.var 8) .nil))) .nil [0, 1, 2]) (.cons (.op2 .eq (.op2 .mod (.blt .int (.cons (.var 8) .nil)) (.var 7)) (.cst (.int 0))) .nil))) .nil [0, 1, 2])) b_law_comes_again_2b_0t .skp)
def b_law_comes_again_2b : MS := s_law_comes_again_2b_0
def s_law_comes_again_2 : MS := (.lop (.nm 8) (.val (.tup (.cons (.cst (.int 0)) (.cons (.cst (.int 1)) (.cons (.var 7) (.cons (.op1 .neg (.var 7)) (.cons (.op2 .add (.var 7) (.cst (.int 1))) (.cons (.op2 .mul (.var 7) (.call i_law_draw 0 [some (2, 0), none] (.cons (.iou 2 0) (.cons (.cst (.int 90000)) .nil)) .nil [0, 1])) (.cons (.call i_law_great 0 [some (2, 0), none] (.cons (.iou 2 0) (.cons (.var 7) .nil)) .nil [0, 1]) (.cons (.op2 .sub (.op1 .neg (.call i_law_great 0 [some (2, 0), none] (.cons (.iou 2 0) (.cons (.var 7) .nil)) .nil [0, 1])) (.cst (.int 1))) .nil)))))))))) b_law_comes_again_2b)
def s_law_comes_again_3b_0t_0 : MS := (.ret (.cst (.bool false)))
def b_law_comes_again_3b_0t : MS := s_law_comes_again_3b_0t_0
def s_law_comes_again_3b_0 : MS := (.ifs (.and (.op2 .eq (.op2 .mod (.blt .int (.cons (.var 7) .nil)) (.var 9)) (.cst (.int 0))) (.op1 .not (.call i_law_is_due 0 [none, none, none] (.cons (.var 1) (.cons (.call i_law_moved 0 [none, none, none] (.cons (.var 2) (.cons (.var 3) (.cons (.op2 .fdv (.var 7) (.var 9)) .nil))) .nil [0, 1, 2]) (.cons (.cst (.bool false)) .nil))) .nil [0, 1, 2]))) b_law_comes_again_3b_0t .skp)
def b_law_comes_again_3b : MS := s_law_comes_again_3b_0
def s_law_comes_again_3 : MS := (.lop (.nm 9) (.val (.tup (.cons (.cst (.int 2)) (.cons (.cst (.int 3)) (.cons (.cst (.int 5)) (.cons (.cst (.int 7)) (.cons (.cst (.int 11)) (.cons (.cst (.int 13)) (.cons (.cst (.int 17)) (.cons (.cst (.int 19)) (.cons (.cst (.int 23)) (.cons (.cst (.int 29)) .nil)))))))))))) b_law_comes_again_3b)
def s_law_comes_again_4 : MS := (.ret (.cst (.bool true)))
/-- 25, place 36 of the text -/
def d_law_comes_again : Df where
  nm := "_law_comes_again"
  N := ["_law_deck_here", "_law_stripe", "_law_x", "_law_t", "_law_m", "_law_c", "_law_r", "_law_n", "_law_k", "_law_p"]
  ps := ["_law_deck_here", "_law_stripe", "_law_x", "_law_t"]
  ms := [2, 0, 0, 0]
  ret := 0
  kws := [(4, [], [0, 1, 2, 3])]
  body := (.seq s_law_comes_again_0 (.seq s_law_comes_again_1 (.seq s_law_comes_again_2 (.seq s_law_comes_again_3 s_law_comes_again_4))))
def s_law_is_of_parts_0 : MS := (.asg (.tup (.cons (.nm 4) (.cons (.nm 5) (.cons (.nm 6) .nil)))) (.var 2))
def s_law_is_of_parts_1 : MS := (.asg (.nm 7) (.call i_law_product 0 [none] (.cons (.comp [("_law_p", 10), ("_law_q", 11)] (.tup (.cons (.nm 10) (.cons (.nm 11) .nil))) (.val (.var 1)) (.op2 .eq (.call i_law_draw 0 [some (2, 0), none] (.cons (.iou 2 0) (.cons (.cst (.int 2)) .nil)) .nil [0, 1]) (.cst (.int 0))) (.var 11)) .nil) .nil [0]))
def s_law_is_of_parts_2 : MS := (.asg (.nm 8) (.call i_law_moved 0 [none, none, none] (.cons (.var 3) (.cons (.blt .tupl (.cons (.comp [("_law_at", 13)] (.nm 13) (.val (.var 5)) (.cst (.bool true)) (.call i_law_signed 0 [some (2, 0), none] (.cons (.iou 2 0) (.cons (.op2 .pow (.cst (.int 10)) (.cst (.int 9))) .nil)) .nil [0, 1])) .nil)) (.cons (.var 7) .nil))) .nil [0, 1, 2]))
def s_law_is_of_parts_3 : MS := (.asg (.nm 9) (.cst (.bool true)))
def s_law_is_of_parts_4b_0 : MS := (.asg (.nm 12) (.op2 .eq (.op2 .mod (.blt .int (.cons (.op2 .sub (.call i_law_along 0 [none, none] (.cons (.var 5) (.cons (.var 8) .nil)) .nil [0, 1]) (.var 6)) .nil)) (.var 11)) (.cst (.int 0))))
def s_law_is_of_parts_4b_1 : MS := (.asg (.nm 9) (.and (.var 9) (.var 12)))
def s_law_is_of_parts_4b_2t_0 : MS := (.ret (.cst (.bool false)))
def b_law_is_of_parts_4b_2t : MS := s_law_is_of_parts_4b_2t_0
def s_law_is_of_parts_4b_2 : MS := (.ifs (.op1 .not (.call i_law_is_due 0 [none, none, none] (.cons (.tup (.cons (.var 11) (.cons (.blt .tupl (.cons (.comp [("_law_a", 14)] (.nm 14) (.val (.var 5)) (.cst (.bool true)) (.op2 .mod (.blt .int (.cons (.var 14) .nil)) (.var 11))) .nil)) (.cons (.op2 .mod (.blt .int (.cons (.var 6) .nil)) (.var 11)) .nil)))) (.cons (.var 8) (.cons (.var 12) .nil))) .nil [0, 1, 2])) b_law_is_of_parts_4b_2t .skp)
def b_law_is_of_parts_4b : MS := (.seq s_law_is_of_parts_4b_0 (.seq s_law_is_of_parts_4b_1 s_law_is_of_parts_4b_2))
def s_law_is_of_parts_4 : MS := (.lop (.tup (.cons (.nm 10) (.cons (.nm 11) .nil))) (.val (.var 1)) b_law_is_of_parts_4b)
def s_law_is_of_parts_5 : MS := (.ret (.call i_law_is_due 0 [none, none, none] (.cons (.var 2) (.cons (.var 8) (.cons (.var 9) .nil))) .nil [0, 1, 2]))
/-- 26, place 37 of the text -/
def d_law_is_of_parts : Df where
  nm := "_law_is_of_parts"
  N := ["_law_deck_here", "_law_powers_here", "_law_stripe", "_law_x", "_law_m", "_law_c", "_law_r", "_law_some", "_law_y", "_law_sure", "_law_p", "_law_q", "_law_is_part", "_law_at", "_law_a"]
  ps := ["_law_deck_here", "_law_powers_here", "_law_stripe", "_law_x"]
  ms := [2, 0, 0, 0]
  ret := 0
  kws := [(4, [], [0, 1, 2, 3])]
  body := (.seq s_law_is_of_parts_0 (.seq s_law_is_of_parts_1 (.seq s_law_is_of_parts_2 (.seq s_law_is_of_parts_3 (.seq s_law_is_of_parts_4 s_law_is_of_parts_5)))))
def s_law_0 : MS := (.fre 2 1 (.call i_law_deck 2 [none] (.cons (.var 0) .nil) .nil [0]))
def s_law_1 : MS := (.par [(0, 2), (0, 3)] (.cons (.call i_law_powers 0 [some (2, 1), none, none] (.cons (.iou 2 1) (.cons (.op2 .pow (.cst (.int 10)) (.cst (.int 40))) (.cons (.cst (.int 1000)) .nil))) .nil [0, 1, 2]) (.cons (.op2 .add (.cst (.int 1)) (.call i_law_draw 0 [some (2, 1), none] (.cons (.iou 2 1) (.cons (.cst (.int 3)) .nil)) .nil [0, 1])) .nil)))
def s_law_2 : MS := (.asg (.nm 4) (.call i_law_product 0 [none] (.cons (.comp [("_law_p", 18), ("_law_q", 19)] (.tup (.cons (.nm 18) (.cons (.nm 19) .nil))) (.val (.var 2)) (.cst (.bool true)) (.var 19)) .nil) .nil [0]))
def s_law_3 : MS := (.par [(0, 5), (0, 6)] (.cons (.call i_law_numbers 0 [some (2, 1), none, none, none] (.cons (.iou 2 1) (.cons (.var 2) (.cons (.var 4) (.cons (.var 3) .nil)))) .nil [0, 1, 2, 3]) (.cons (.blt .tupl (.cons (.comp [("_law_at", 13)] (.nm 13) (.rng1 (.var 3)) (.cst (.bool true)) (.call i_law_signed 0 [some (2, 1), none] (.cons (.iou 2 1) (.cons (.op2 .pow (.cst (.int 10)) (.cst (.int 50))) .nil)) .nil [0, 1])) .nil)) .nil)))
def s_law_4 : MS := (.asg (.nm 7) (.op2 .mod (.blt .int (.cons (.call i_law_along 0 [none, none] (.cons (.var 5) (.cons (.var 6) .nil)) .nil [0, 1]) .nil)) (.var 4)))
def s_law_5 : MS := (.par [(0, 8), (0, 9)] (.cons (.tup (.cons (.var 4) (.cons (.var 5) (.cons (.var 7) .nil)))) (.cons (.call i_law_unit 0 [some (2, 1), none, none] (.cons (.iou 2 1) (.cons (.var 2) (.cons (.var 4) .nil))) .nil [0, 1, 2]) .nil)))
def s_law_6 : MS := (.asg (.nm 10) (.tup (.cons (.var 4) (.cons (.blt .tupl (.cons (.comp [("_law_a", 20)] (.nm 20) (.val (.var 5)) (.cst (.bool true)) (.op2 .mod (.blt .int (.cons (.op2 .mul (.var 9) (.var 20)) .nil)) (.var 4))) .nil)) (.cons (.op2 .mod (.blt .int (.cons (.op2 .mul (.var 9) (.var 7)) .nil)) (.var 4)) .nil)))))
def s_law_7b_0t_0 : MS := (.ret (.cst (.bool false)))
def b_law_7b_0t : MS := s_law_7b_0t_0
def s_law_7b_0 : MS := (.ifs (.op1 .not (.call i_law_is_due 0 [none, none, none] (.cons (.tup (.cons (.var 4) (.cons (.var 5) (.cons (.op2 .mod (.blt .int (.cons (.op2 .add (.var 7) (.var 11)) .nil)) (.var 4)) .nil)))) (.cons (.var 6) (.cons (.op2 .eq (.op2 .mod (.blt .int (.cons (.var 11) .nil)) (.var 4)) (.cst (.int 0))) .nil))) .nil [0, 1, 2])) b_law_7b_0t .skp)
def b_law_7b : MS := s_law_7b_0
def s_law_7 : MS := (.lop (.nm 11) (.val (.op2 .add (.op2 .add (.lst (.cons (.cst (.int 0)) (.cons (.cst (.int 1)) (.cons (.op1 .neg (.cst (.int 1))) (.cons (.call i_law_great 0 [some (2, 1), none] (.cons (.iou 2 1) (.cons (.var 4) .nil)) .nil [0, 1]) (.cons (.op2 .fdv (.var 4) (.cst (.int 2))) .nil)))))) (.comp [("_law_p", 18), ("_law_q", 19)] (.tup (.cons (.nm 18) (.cons (.nm 19) .nil))) (.val (.var 2)) (.cst (.bool true)) (.op2 .fdv (.var 4) (.var 18)))) (.comp [("_law_p", 18), ("_law_q", 19)] (.tup (.cons (.nm 18) (.cons (.nm 19) .nil))) (.val (.var 2)) (.cst (.bool true)) (.var 19)))) b_law_7b)
def s_law_8b_0 : MS := (.asg (.nm 14) (.call i_law_step 0 [some (2, 1), none, none] (.cons (.iou 2 1) (.cons (.var 2) (.cons (.var 3) .nil))) .nil [0, 1, 2]))
def s_law_8b_1t_0 : MS := (.ret (.cst (.bool false)))
def b_law_8b_1t : MS := s_law_8b_1t_0
def s_law_8b_1 : MS := (.ifs (.or (.op1 .not (.call i_law_comes_again 0 [some (2, 1), none, none, none] (.cons (.iou 2 1) (.cons (.var 8) (.cons (.var 6) (.cons (.var 14) .nil)))) .nil [0, 1, 2, 3])) (.op1 .not (.call i_law_comes_again 0 [some (2, 1), none, none, none] (.cons (.iou 2 1) (.cons (.var 10) (.cons (.var 6) (.cons (.var 14) .nil)))) .nil [0, 1, 2, 3]))) b_law_8b_1t .skp)
def s_law_8b_2t_0 : MS := (.ret (.cst (.bool false)))
def b_law_8b_2t : MS := s_law_8b_2t_0
def s_law_8b_2 : MS := (.ifs (.or (.op1 .not (.call i_law_is_of_parts 0 [some (2, 1), none, none, none] (.cons (.iou 2 1) (.cons (.var 2) (.cons (.var 8) (.cons (.var 6) .nil)))) .nil [0, 1, 2, 3])) (.op1 .not (.call i_law_is_of_parts 0 [some (2, 1), none, none, none] (.cons (.iou 2 1) (.cons (.var 2) (.cons (.var 10) (.cons (.var 6) .nil)))) .nil [0, 1, 2, 3]))) b_law_8b_2t .skp)
def b_law_8b : MS := (.seq s_law_8b_0 (.seq s_law_8b_1 s_law_8b_2))
def s_law_8 : MS := (.lop (.nm 12) (.rng1 (.cst (.int 3))) b_law_8b)
def s_law_9b_0 : MS := (.par [(0, 15), (0, 16)] (.cons (.op2 .mod (.op2 .add (.op2 .add (.var 13) (.cst (.int 1))) (.call i_law_draw 0 [some (2, 1), none] (.cons (.iou 2 1) (.cons (.cst (.int 2)) .nil)) .nil [0, 1])) (.var 3)) (.cons (.call i_law_signed 0 [some (2, 1), none] (.cons (.iou 2 1) (.cons (.op2 .pow (.cst (.int 10)) (.cst (.int 15))) .nil)) .nil [0, 1]) .nil)))
def s_law_9b_1t_0 : MS := (.asg (.nm 14) (.blt .tupl (.cons (.comp [("_law_place", 21)] (.nm 21) (.rng1 (.var 3)) (.cst (.bool true)) (.ife (.op2 .eq (.var 21) (.var 13)) (.sub (.var 5) (.var 15)) (.ife (.op2 .eq (.var 21) (.var 15)) (.op1 .neg (.sub (.var 5) (.var 13))) (.cst (.int 0))))) .nil)))
def s_law_9b_1t_1 : MS := (.asg (.nm 17) (.call i_law_moved 0 [none, none, none] (.cons (.var 6) (.cons (.var 14) (.cons (.var 16) .nil))) .nil [0, 1, 2]))
def s_law_9b_1t_2t_0 : MS := (.ret (.cst (.bool false)))
def b_law_9b_1t_2t : MS := s_law_9b_1t_2t_0
def s_law_9b_1t_2 : MS := (.ifs (.or (.op1 .not (.call i_law_is_due 0 [none, none, none] (.cons (.var 8) (.cons (.var 17) (.cons (.cst (.bool true)) .nil))) .nil [0, 1, 2])) (.op1 .not (.call i_law_is_due 0 [none, none, none] (.cons (.var 10) (.cons (.var 17) (.cons (.cst (.bool true)) .nil))) .nil [0, 1, 2]))) b_law_9b_1t_2t .skp)
def b_law_9b_1t : MS := (.seq s_law_9b_1t_0 (.seq s_law_9b_1t_1 s_law_9b_1t_2))
def s_law_9b_1 : MS := (.ifs (.op2 .ne (.var 15) (.var 13)) b_law_9b_1t .skp)
def b_law_9b : MS := (.seq s_law_9b_0 s_law_9b_1)
def s_law_9 : MS := (.lop (.nm 13) (.rng1 (.var 3)) b_law_9b)
def s_law_10 : MS := (.ret (.cst (.bool true)))
/-- 27, place 38 of the text -/
def d_law : Df where
  nm := "law"
  N := ["_law_script", "_law_deck_here", "_law_powers_here", "_law_d", "_law_m", "_law_c", "_law_x", "_law_r", "_law_stripe", "_law_u", "_law_other", "_law_shift", "_law_turn", "_law_at", "_law_t", "_law_near", "_law_v", "_law_y", "_law_p", "_law_q", "_law_a", "_law_place"]
  ps := ["_law_script"]
  ms := [0]
  ret := 0
  kws := [(1, [], [0])]
  body := (.seq s_law_0 (.seq s_law_1 (.seq s_law_2 (.seq s_law_3 (.seq s_law_4 (.seq s_law_5 (.seq s_law_6 (.seq s_law_7 (.seq s_law_8 (.seq s_law_9 s_law_10))))))))))
def dfs : List Df := [d_is_integer, d_are_integers, d_is_period_number, d_is_cell_row, d_is_cell_of, d_product_at, d_is_class_row, d_is_stripe_row, d_lies_on, d_need_stripes, d_is_on, d_law_deck, d_law_draw, d_law_pick, d_law_great, d_law_signed, d_law_powers, d_law_product, d_law_numbers, d_law_unit, d_law_along, d_law_common, d_law_moved, d_law_is_due, d_law_step, d_law_comes_again, d_law_is_of_parts, d_law]
def GC : List (Str × Int) := [("MOST_PRIME", (30)), ("MOST_ROOT", (1000)), ("MOST_BREADTH", (3))]
def C : CkP := ⟨fun f => dfs[f]?, GC, true⟩
def top (i : Nat) : Stmt := PySem.Challenge.pw_slantpanes_k03_far_cells_on_stripes.main.body.getD i (.Pass ⟨0, 0, 0, 0⟩)
def e0 : He.DefD := ⟨("is_integer", none), "is_integer", "is_integer", defArgs (top 9), defBody (top 9), defScope (top 9), [], []⟩
def e1 : He.DefD := ⟨("are_integers", none), "are_integers", "are_integers", defArgs (top 10), defBody (top 10), defScope (top 10), [], []⟩
def e2 : He.DefD := ⟨("is_period_number", none), "is_period_number", "is_period_number", defArgs (top 11), defBody (top 11), defScope (top 11), [], []⟩
def e3 : He.DefD := ⟨("is_cell_row", none), "is_cell_row", "is_cell_row", defArgs (top 12), defBody (top 12), defScope (top 12), [], []⟩
def e4 : He.DefD := ⟨("is_cell_of", none), "is_cell_of", "is_cell_of", defArgs (top 13), defBody (top 13), defScope (top 13), [], []⟩
def e5 : He.DefD := ⟨("product_at", none), "product_at", "product_at", defArgs (top 14), defBody (top 14), defScope (top 14), [], []⟩
def e6 : He.DefD := ⟨("is_class_row", none), "is_class_row", "is_class_row", defArgs (top 15), defBody (top 15), defScope (top 15), [], []⟩
def e7 : He.DefD := ⟨("is_stripe_row", none), "is_stripe_row", "is_stripe_row", defArgs (top 16), defBody (top 16), defScope (top 16), [], []⟩
def e8 : He.DefD := ⟨("lies_on", none), "lies_on", "lies_on", defArgs (top 17), defBody (top 17), defScope (top 17), [], []⟩
def e9 : He.DefD := ⟨("need_stripes", none), "need_stripes", "need_stripes", defArgs (top 19), defBody (top 19), defScope (top 19), [], []⟩
def e10 : He.DefD := ⟨("is_on", none), "is_on", "is_on", defArgs (top 20), defBody (top 20), defScope (top 20), [], []⟩
def e11 : He.DefD := ⟨("_law_deck", none), "_law_deck", "_law_deck", defArgs (top 22), defBody (top 22), defScope (top 22), [], []⟩
def e12 : He.DefD := ⟨("_law_draw", none), "_law_draw", "_law_draw", defArgs (top 23), defBody (top 23), defScope (top 23), [], []⟩
def e13 : He.DefD := ⟨("_law_pick", none), "_law_pick", "_law_pick", defArgs (top 24), defBody (top 24), defScope (top 24), [], []⟩
def e14 : He.DefD := ⟨("_law_great", none), "_law_great", "_law_great", defArgs (top 25), defBody (top 25), defScope (top 25), [], []⟩
def e15 : He.DefD := ⟨("_law_signed", none), "_law_signed", "_law_signed", defArgs (top 26), defBody (top 26), defScope (top 26), [], []⟩
def e16 : He.DefD := ⟨("_law_powers", none), "_law_powers", "_law_powers", defArgs (top 27), defBody (top 27), defScope (top 27), [], []⟩
def e17 : He.DefD := ⟨("_law_product", none), "_law_product", "_law_product", defArgs (top 28), defBody (top 28), defScope (top 28), [], []⟩
def e18 : He.DefD := ⟨("_law_numbers", none), "_law_numbers", "_law_numbers", defArgs (top 29), defBody (top 29), defScope (top 29), [], []⟩
def e19 : He.DefD := ⟨("_law_unit", none), "_law_unit", "_law_unit", defArgs (top 30), defBody (top 30), defScope (top 30), [], []⟩
def e20 : He.DefD := ⟨("_law_along", none), "_law_along", "_law_along", defArgs (top 31), defBody (top 31), defScope (top 31), [], []⟩
def e21 : He.DefD := ⟨("_law_common", none), "_law_common", "_law_common", defArgs (top 32), defBody (top 32), defScope (top 32), [], []⟩
def e22 : He.DefD := ⟨("_law_moved", none), "_law_moved", "_law_moved", defArgs (top 33), defBody (top 33), defScope (top 33), [], []⟩
def e23 : He.DefD := ⟨("_law_is_due", none), "_law_is_due", "_law_is_due", defArgs (top 34), defBody (top 34), defScope (top 34), [], []⟩
def e24 : He.DefD := ⟨("_law_step", none), "_law_step", "_law_step", defArgs (top 35), defBody (top 35), defScope (top 35), [], []⟩
def e25 : He.DefD := ⟨("_law_comes_again", none), "_law_comes_again", "_law_comes_again", defArgs (top 36), defBody (top 36), defScope (top 36), [], []⟩
def e26 : He.DefD := ⟨("_law_is_of_parts", none), "_law_is_of_parts", "_law_is_of_parts", defArgs (top 37), defBody (top 37), defScope (top 37), [], []⟩
def e27 : He.DefD := ⟨("law", none), "law", "law", defArgs (top 38), defBody (top 38), defScope (top 38), [], []⟩
def fn : List He.DefD := [e0, e1, e2, e3, e4, e5, e6, e7, e8, e9, e10, e11, e12, e13, e14, e15, e16, e17, e18, e19, e20, e21, e22, e23, e24, e25, e26, e27]
def gb : List (Str × Value) := [("gcd", .builtin "math.gcd")]
theorem o0 : One C d_is_integer e0 := ⟨rfl, by decide +kernel, fun K fd a F => bindOk_of F fun kV doc pm an cdv ct p hp us ws h1 h2 => by
  rcases List.mem_cons.mp hp with rfl | hp
  · match us, ws, h1, h2 with
    | [u0], [], _, _ => rfl
  exact nomatch hp⟩
theorem o1 : One C d_are_integers e1 := ⟨rfl, by decide +kernel, fun K fd a F => bindOk_of F fun kV doc pm an cdv ct p hp us ws h1 h2 => by
  rcases List.mem_cons.mp hp with rfl | hp
  · match us, ws, h1, h2 with
    | [u0], [], _, _ => rfl
  exact nomatch hp⟩
theorem o2 : One C d_is_period_number e2 := ⟨rfl, by decide +kernel, fun K fd a F => bindOk_of F fun kV doc pm an cdv ct p hp us ws h1 h2 => by
  rcases List.mem_cons.mp hp with rfl | hp
  · match us, ws, h1, h2 with
    | [u0], [], _, _ => rfl
  exact nomatch hp⟩
theorem o3 : One C d_is_cell_row e3 := ⟨rfl, by decide +kernel, fun K fd a F => bindOk_of F fun kV doc pm an cdv ct p hp us ws h1 h2 => by
  rcases List.mem_cons.mp hp with rfl | hp
  · match us, ws, h1, h2 with
    | [u0], [], _, _ => rfl
  exact nomatch hp⟩
theorem o4 : One C d_is_cell_of e4 := ⟨rfl, by decide +kernel, fun K fd a F => bindOk_of F fun kV doc pm an cdv ct p hp us ws h1 h2 => by
  rcases List.mem_cons.mp hp with rfl | hp
  · match us, ws, h1, h2 with
    | [u0, u1], [], _, _ => rfl
  exact nomatch hp⟩
theorem o5 : One C d_product_at e5 := ⟨rfl, by decide +kernel, fun K fd a F => bindOk_of F fun kV doc pm an cdv ct p hp us ws h1 h2 => by
  rcases List.mem_cons.mp hp with rfl | hp
  · match us, ws, h1, h2 with
    | [u0, u1], [], _, _ => rfl
  exact nomatch hp⟩
theorem o6 : One C d_is_class_row e6 := ⟨rfl, by decide +kernel, fun K fd a F => bindOk_of F fun kV doc pm an cdv ct p hp us ws h1 h2 => by
  rcases List.mem_cons.mp hp with rfl | hp
  · match us, ws, h1, h2 with
    | [u0, u1], [], _, _ => rfl
  exact nomatch hp⟩
theorem o7 : One C d_is_stripe_row e7 := ⟨rfl, by decide +kernel, fun K fd a F => bindOk_of F fun kV doc pm an cdv ct p hp us ws h1 h2 => by
  rcases List.mem_cons.mp hp with rfl | hp
  · match us, ws, h1, h2 with
    | [u0], [], _, _ => rfl
  exact nomatch hp⟩
theorem o8 : One C d_lies_on e8 := ⟨rfl, by decide +kernel, fun K fd a F => bindOk_of F fun kV doc pm an cdv ct p hp us ws h1 h2 => by
  rcases List.mem_cons.mp hp with rfl | hp
  · match us, ws, h1, h2 with
    | [u0, u1], [], _, _ => rfl
  exact nomatch hp⟩
theorem o9 : One C d_need_stripes e9 := ⟨rfl, by decide +kernel, fun K fd a F => bindOk_of F fun kV doc pm an cdv ct p hp us ws h1 h2 => by
  rcases List.mem_cons.mp hp with rfl | hp
  · match us, ws, h1, h2 with
    | [u0], [], _, _ => rfl
  exact nomatch hp⟩
theorem o10 : One C d_is_on e10 := ⟨rfl, by decide +kernel, fun K fd a F => bindOk_of F fun kV doc pm an cdv ct p hp us ws h1 h2 => by
  rcases List.mem_cons.mp hp with rfl | hp
  · match us, ws, h1, h2 with
    | [u0, u1], [], _, _ => rfl
  rcases List.mem_cons.mp hp with rfl | hp
  · match us, ws, h1, h2 with
    | [], [w0, w1], _, _ => rfl
  exact nomatch hp⟩
theorem o11 : One C d_law_deck e11 := ⟨rfl, by decide +kernel, fun K fd a F => bindOk_of F fun kV doc pm an cdv ct p hp us ws h1 h2 => by
  rcases List.mem_cons.mp hp with rfl | hp
  · match us, ws, h1, h2 with
    | [u0], [], _, _ => rfl
  exact nomatch hp⟩
theorem o12 : One C d_law_draw e12 := ⟨rfl, by decide +kernel, fun K fd a F => bindOk_of F fun kV doc pm an cdv ct p hp us ws h1 h2 => by
  rcases List.mem_cons.mp hp with rfl | hp
  · match us, ws, h1, h2 with
    | [u0, u1], [], _, _ => rfl
  exact nomatch hp⟩
theorem o13 : One C d_law_pick e13 := ⟨rfl, by decide +kernel, fun K fd a F => bindOk_of F fun kV doc pm an cdv ct p hp us ws h1 h2 => by
  rcases List.mem_cons.mp hp with rfl | hp
  · match us, ws, h1, h2 with
    | [u0, u1], [], _, _ => rfl
  exact nomatch hp⟩
theorem o14 : One C d_law_great e14 := ⟨rfl, by decide +kernel, fun K fd a F => bindOk_of F fun kV doc pm an cdv ct p hp us ws h1 h2 => by
  rcases List.mem_cons.mp hp with rfl | hp
  · match us, ws, h1, h2 with
    | [u0, u1], [], _, _ => rfl
  exact nomatch hp⟩
theorem o15 : One C d_law_signed e15 := ⟨rfl, by decide +kernel, fun K fd a F => bindOk_of F fun kV doc pm an cdv ct p hp us ws h1 h2 => by
  rcases List.mem_cons.mp hp with rfl | hp
  · match us, ws, h1, h2 with
    | [u0, u1], [], _, _ => rfl
  exact nomatch hp⟩
theorem o16 : One C d_law_powers e16 := ⟨rfl, by decide +kernel, fun K fd a F => bindOk_of F fun kV doc pm an cdv ct p hp us ws h1 h2 => by
  rcases List.mem_cons.mp hp with rfl | hp
  · match us, ws, h1, h2 with
    | [u0, u1, u2], [], _, _ => rfl
  exact nomatch hp⟩
theorem o17 : One C d_law_product e17 := ⟨rfl, by decide +kernel, fun K fd a F => bindOk_of F fun kV doc pm an cdv ct p hp us ws h1 h2 => by
  rcases List.mem_cons.mp hp with rfl | hp
  · match us, ws, h1, h2 with
    | [u0], [], _, _ => rfl
  exact nomatch hp⟩
theorem o18 : One C d_law_numbers e18 := ⟨rfl, by decide +kernel, fun K fd a F => bindOk_of F fun kV doc pm an cdv ct p hp us ws h1 h2 => by
  rcases List.mem_cons.mp hp with rfl | hp
  · match us, ws, h1, h2 with
    | [u0, u1, u2, u3], [], _, _ => rfl
  exact nomatch hp⟩
theorem o19 : One C d_law_unit e19 := ⟨rfl, by decide +kernel, fun K fd a F => bindOk_of F fun kV doc pm an cdv ct p hp us ws h1 h2 => by
  rcases List.mem_cons.mp hp with rfl | hp
  · match us, ws, h1, h2 with
    | [u0, u1, u2], [], _, _ => rfl
  exact nomatch hp⟩
theorem o20 : One C d_law_along e20 := ⟨rfl, by decide +kernel, fun K fd a F => bindOk_of F fun kV doc pm an cdv ct p hp us ws h1 h2 => by
  rcases List.mem_cons.mp hp with rfl | hp
  · match us, ws, h1, h2 with
    | [u0, u1], [], _, _ => rfl
  exact nomatch hp⟩
theorem o21 : One C d_law_common e21 := ⟨rfl, by decide +kernel, fun K fd a F => bindOk_of F fun kV doc pm an cdv ct p hp us ws h1 h2 => by
  rcases List.mem_cons.mp hp with rfl | hp
  · match us, ws, h1, h2 with
    | [u0, u1], [], _, _ => rfl
  exact nomatch hp⟩
theorem o22 : One C d_law_moved e22 := ⟨rfl, by decide +kernel, fun K fd a F => bindOk_of F fun kV doc pm an cdv ct p hp us ws h1 h2 => by
  rcases List.mem_cons.mp hp with rfl | hp
  · match us, ws, h1, h2 with
    | [u0, u1, u2], [], _, _ => rfl
  exact nomatch hp⟩
theorem o23 : One C d_law_is_due e23 := ⟨rfl, by decide +kernel, fun K fd a F => bindOk_of F fun kV doc pm an cdv ct p hp us ws h1 h2 => by
  rcases List.mem_cons.mp hp with rfl | hp
  · match us, ws, h1, h2 with
    | [u0, u1, u2], [], _, _ => rfl
  exact nomatch hp⟩
theorem o24 : One C d_law_step e24 := ⟨rfl, by decide +kernel, fun K fd a F => bindOk_of F fun kV doc pm an cdv ct p hp us ws h1 h2 => by
  rcases List.mem_cons.mp hp with rfl | hp
  · match us, ws, h1, h2 with
    | [u0, u1, u2], [], _, _ => rfl
  exact nomatch hp⟩
theorem o25 : One C d_law_comes_again e25 := ⟨rfl, by decide +kernel, fun K fd a F => bindOk_of F fun kV doc pm an cdv ct p hp us ws h1 h2 => by
  rcases List.mem_cons.mp hp with rfl | hp
  · match us, ws, h1, h2 with
    | [u0, u1, u2, u3], [], _, _ => rfl
  exact nomatch hp⟩
theorem o26 : One C d_law_is_of_parts e26 := ⟨rfl, by decide +kernel, fun K fd a F => bindOk_of F fun kV doc pm an cdv ct p hp us ws h1 h2 => by
  rcases List.mem_cons.mp hp with rfl | hp
  · match us, ws, h1, h2 with
    | [u0, u1, u2, u3], [], _, _ => rfl
  exact nomatch hp⟩
theorem o27 : One C d_law e27 := ⟨rfl, by decide +kernel, fun K fd a F => bindOk_of F fun kV doc pm an cdv ct p hp us ws h1 h2 => by
  rcases List.mem_cons.mp hp with rfl | hp
  · match us, ws, h1, h2 with
    | [u0], [], _, _ => rfl
  exact nomatch hp⟩
theorem all : allOk C dfs fn := ⟨o0, o1, o2, o3, o4, o5, o6, o7, o8, o9, o10, o11, o12, o13, o14, o15, o16, o17, o18, o19, o20, o21, o22, o23, o24, o25, o26, o27, trivial⟩
end K03

set_option Elab.async false
set_option linter.all false
set_option maxRecDepth 100000
set_option maxHeartbeats 1000000
namespace K03
open PySem Mini Mini.W
section
variable {G : Defs} {fu : Nat}
theorem draw_ok : DrawOk (runDf G fu d_law_draw) := by
  intro b d many hd hb h0 hm0
  have hm := lg h0 hm0
  obtain ⟨l, m, k, rfl, hl, m0, m1, k0, k1⟩ := hd
  have hDL : DL = 1000000000 := rfl
  have hLIM : LIM = 1000000 := rfl
  rw [s_run rfl]
  show (exS G fu d_law_draw.body [some (2, .dict (deckL l m k)), some (0, .int many), none, none]).sat (endB [2, 0] _)
  simp only [d_law_draw, s_law_draw_0, sOk, sat_bad, own_c0, own_cs, set_c0, set_cs, getS_c0, getS_cs, e_var, e_bor, e_iou, e_mov, e_frz, frz_some, e_cst, e_glb, e_flat, e_op1, e_op2, e_chn, chn_b, e_and, e_or, e_ife, lst_l, e_tup, e_lst, e_nil, e_cons, e_sub, e_key, e_slc, e_nop, e_rev, e_blt, e_call, it_l, it_t, e_comp, e_val, int_i, e_rng1, e_rng2, zip_l, zip_t, e_zip, e_pop, e_dsp, t_b, t_i, o_neg, o_not, o_add, o_sub, o_mul, o_fdv, o_mod, o_pow, o_lt, o_le, o_gt, o_ge, o_eq, o_ne, o_addL, o_inn, o_nin, o_isn, o_isnn, o_subL, o_subT, o_len, o_lenT, o_tupl, o_list, o_int, o_abs, o_max, o_min, o_gcd, o_sum, o_all, o_any, rb, eqvS, rf_nil, rf_none, rf_some, p_nil, p_none, p_some, a_nm, a_tup, a_nil, a_cons, s_skp, then_nx, then_rt, then_bk, then_ct, s_seq, s_asg, s_fre, s_par, ps_nil, ps_cons, s_exp, s_ret, s_rtn, s_ifs, s_lop, s_brk, s_cnt, s_nvr, s_app, s_set, s_setK, c_lst, ap_lst, si_lst, end_nx, end_rt, oo_nil, oo_0, oo_s, dk_c, dk_m, dk_d, dk_set, dk_can, dk_app, permL, List.filterMap_cons, List.filterMap_nil, List.getElem?_cons_zero, List.getElem?_cons_succ, List.cons_append, List.nil_append, List.append_nil, at0, at1, at2, isi_int, isi_bool, isi_tup, eqvI, Option.some.injEq, exists_eq_left', true_and, and_true, wipeR, Bool.not_true, Bool.not_false, forall_const, List.map_cons, List.map_nil, reduceCtorEq, false_implies, implies_true, true_implies, Bool.true_eq_false, Bool.false_eq_true, eq_self, o_slc, i2_nh, isFlat, true_and]
  simp only [s_law_draw_1, sOk, sat_bad, own_c0, own_cs, set_c0, set_cs, getS_c0, getS_cs, e_var, e_bor, e_iou, e_mov, e_frz, frz_some, e_cst, e_glb, e_flat, e_op1, e_op2, e_chn, chn_b, e_and, e_or, e_ife, lst_l, e_tup, e_lst, e_nil, e_cons, e_sub, e_key, e_slc, e_nop, e_rev, e_blt, e_call, it_l, it_t, e_comp, e_val, int_i, e_rng1, e_rng2, zip_l, zip_t, e_zip, e_pop, e_dsp, t_b, t_i, o_neg, o_not, o_add, o_sub, o_mul, o_fdv, o_mod, o_pow, o_lt, o_le, o_gt, o_ge, o_eq, o_ne, o_addL, o_inn, o_nin, o_isn, o_isnn, o_subL, o_subT, o_len, o_lenT, o_tupl, o_list, o_int, o_abs, o_max, o_min, o_gcd, o_sum, o_all, o_any, rb, eqvS, rf_nil, rf_none, rf_some, p_nil, p_none, p_some, a_nm, a_tup, a_nil, a_cons, s_skp, then_nx, then_rt, then_bk, then_ct, s_seq, s_asg, s_fre, s_par, ps_nil, ps_cons, s_exp, s_ret, s_rtn, s_ifs, s_lop, s_brk, s_cnt, s_nvr, s_app, s_set, s_setK, c_lst, ap_lst, si_lst, end_nx, end_rt, oo_nil, oo_0, oo_s, dk_c, dk_m, dk_d, dk_set, dk_can, dk_app, permL, List.filterMap_cons, List.filterMap_nil, List.getElem?_cons_zero, List.getElem?_cons_succ, List.cons_append, List.nil_append, List.append_nil, at0, at1, at2, isi_int, isi_bool, isi_tup, eqvI, Option.some.injEq, exists_eq_left', true_and, and_true, wipeR, Bool.not_true, Bool.not_false, forall_const, List.map_cons, List.map_nil, reduceCtorEq, false_implies, implies_true, true_implies, Bool.true_eq_false, Bool.false_eq_true, eq_self, o_slc, i2_nh]
  refine ⟨mulOk_of (by omega) (by omega), ?_⟩
  have rest : ∀ (l : List Int) (x : Int) (s : Slot), l.length ≤ 63 → 0 ≤ x → x < 2 ^ 100 → (exS G fu (s_law_draw_3.seq (s_law_draw_4.seq (s_law_draw_5.seq s_law_draw_6))) [some (2, PyData.dict (deckL l m (k + 1))), some (0, PyData.int many), some (0, PyData.int x), s]).sat
      (endB [2, 0] fun r => ∃ i d', r = (PyData.int i, [d']) ∧ 0 ≤ i ∧ i < many ∧ Deck (b + 1) d') := by
    intro l x s hl x0 x1
    simp only [s_law_draw_3, sOk, sat_bad, own_c0, own_cs, set_c0, set_cs, getS_c0, getS_cs, e_var, e_bor, e_iou, e_mov, e_frz, frz_some, e_cst, e_glb, e_flat, e_op1, e_op2, e_chn, chn_b, e_and, e_or, e_ife, lst_l, e_tup, e_lst, e_nil, e_cons, e_sub, e_key, e_slc, e_nop, e_rev, e_blt, e_call, it_l, it_t, e_comp, e_val, int_i, e_rng1, e_rng2, zip_l, zip_t, e_zip, e_pop, e_dsp, t_b, t_i, o_neg, o_not, o_add, o_sub, o_mul, o_fdv, o_mod, o_pow, o_lt, o_le, o_gt, o_ge, o_eq, o_ne, o_addL, o_inn, o_nin, o_isn, o_isnn, o_subL, o_subT, o_len, o_lenT, o_tupl, o_list, o_int, o_abs, o_max, o_min, o_gcd, o_sum, o_all, o_any, rb, eqvS, rf_nil, rf_none, rf_some, p_nil, p_none, p_some, a_nm, a_tup, a_nil, a_cons, s_skp, then_nx, then_rt, then_bk, then_ct, s_seq, s_asg, s_fre, s_par, ps_nil, ps_cons, s_exp, s_ret, s_rtn, s_ifs, s_lop, s_brk, s_cnt, s_nvr, s_app, s_set, s_setK, c_lst, ap_lst, si_lst, end_nx, end_rt, oo_nil, oo_0, oo_s, dk_c, dk_m, dk_d, dk_set, dk_can, dk_app, permL, List.filterMap_cons, List.filterMap_nil, List.getElem?_cons_zero, List.getElem?_cons_succ, List.cons_append, List.nil_append, List.append_nil, at0, at1, at2, isi_int, isi_bool, isi_tup, eqvI, Option.some.injEq, exists_eq_left', true_and, and_true, wipeR, Bool.not_true, Bool.not_false, forall_const, List.map_cons, List.map_nil, reduceCtorEq, false_implies, implies_true, true_implies, Bool.true_eq_false, Bool.false_eq_true, eq_self, o_slc, i2_nh]
    refine ⟨mulOk_of (by omega) (by omega), by omega, ?_⟩
    generalize hz : (x * 39373 + 83) % 2147483647 = z
    have z0 : 0 ≤ z ∧ z < 2147483647 := by omega
    simp only [s_law_draw_4, sOk, sat_bad, own_c0, own_cs, set_c0, set_cs, getS_c0, getS_cs, e_var, e_bor, e_iou, e_mov, e_frz, frz_some, e_cst, e_glb, e_flat, e_op1, e_op2, e_chn, chn_b, e_and, e_or, e_ife, lst_l, e_tup, e_lst, e_nil, e_cons, e_sub, e_key, e_slc, e_nop, e_rev, e_blt, e_call, it_l, it_t, e_comp, e_val, int_i, e_rng1, e_rng2, zip_l, zip_t, e_zip, e_pop, e_dsp, t_b, t_i, o_neg, o_not, o_add, o_sub, o_mul, o_fdv, o_mod, o_pow, o_lt, o_le, o_gt, o_ge, o_eq, o_ne, o_addL, o_inn, o_nin, o_isn, o_isnn, o_subL, o_subT, o_len, o_lenT, o_tupl, o_list, o_int, o_abs, o_max, o_min, o_gcd, o_sum, o_all, o_any, rb, eqvS, rf_nil, rf_none, rf_some, p_nil, p_none, p_some, a_nm, a_tup, a_nil, a_cons, s_skp, then_nx, then_rt, then_bk, then_ct, s_seq, s_asg, s_fre, s_par, ps_nil, ps_cons, s_exp, s_ret, s_rtn, s_ifs, s_lop, s_brk, s_cnt, s_nvr, s_app, s_set, s_setK, c_lst, ap_lst, si_lst, end_nx, end_rt, oo_nil, oo_0, oo_s, dk_c, dk_m, dk_d, dk_set, dk_can, dk_app, permL, List.filterMap_cons, List.filterMap_nil, List.getElem?_cons_zero, List.getElem?_cons_succ, List.cons_append, List.nil_append, List.append_nil, at0, at1, at2, isi_int, isi_bool, isi_tup, eqvI, Option.some.injEq, exists_eq_left', true_and, and_true, wipeR, Bool.not_true, Bool.not_false, forall_const, List.map_cons, List.map_nil, reduceCtorEq, false_implies, implies_true, true_implies, Bool.true_eq_false, Bool.false_eq_true, eq_self, o_slc, i2_nh]
    have zz : 0 ≤ z * z := Int.mul_nonneg z0.1 z0.1
    have zz2 : z * z ≤ 2147483647 * 2147483647 := Int.mul_le_mul (by omega) (by omega) (by omega) (by omega)
    refine ⟨mulOk_of (by omega) (by omega), mulOk_of (by omega) (by omega), by omega, ?_⟩
    generalize hw : (z * z + 49277 * (k + 1) + 19) % 2147483587 = w
    have w0 : 0 ≤ w ∧ w < 2147483587 := by omega
    simp only [s_law_draw_5, sOk, sat_bad, own_c0, own_cs, set_c0, set_cs, getS_c0, getS_cs, e_var, e_bor, e_iou, e_mov, e_frz, frz_some, e_cst, e_glb, e_flat, e_op1, e_op2, e_chn, chn_b, e_and, e_or, e_ife, lst_l, e_tup, e_lst, e_nil, e_cons, e_sub, e_key, e_slc, e_nop, e_rev, e_blt, e_call, it_l, it_t, e_comp, e_val, int_i, e_rng1, e_rng2, zip_l, zip_t, e_zip, e_pop, e_dsp, t_b, t_i, o_neg, o_not, o_add, o_sub, o_mul, o_fdv, o_mod, o_pow, o_lt, o_le, o_gt, o_ge, o_eq, o_ne, o_addL, o_inn, o_nin, o_isn, o_isnn, o_subL, o_subT, o_len, o_lenT, o_tupl, o_list, o_int, o_abs, o_max, o_min, o_gcd, o_sum, o_all, o_any, rb, eqvS, rf_nil, rf_none, rf_some, p_nil, p_none, p_some, a_nm, a_tup, a_nil, a_cons, s_skp, then_nx, then_rt, then_bk, then_ct, s_seq, s_asg, s_fre, s_par, ps_nil, ps_cons, s_exp, s_ret, s_rtn, s_ifs, s_lop, s_brk, s_cnt, s_nvr, s_app, s_set, s_setK, c_lst, ap_lst, si_lst, end_nx, end_rt, oo_nil, oo_0, oo_s, dk_c, dk_m, dk_d, dk_set, dk_can, dk_app, permL, List.filterMap_cons, List.filterMap_nil, List.getElem?_cons_zero, List.getElem?_cons_succ, List.cons_append, List.nil_append, List.append_nil, at0, at1, at2, isi_int, isi_bool, isi_tup, eqvI, Option.some.injEq, exists_eq_left', true_and, and_true, wipeR, Bool.not_true, Bool.not_false, forall_const, List.map_cons, List.map_nil, reduceCtorEq, false_implies, implies_true, true_implies, Bool.true_eq_false, Bool.false_eq_true, eq_self, o_slc, i2_nh]
    refine ⟨mulOk_of (by omega) (by omega), by omega, ?_⟩
    simp only [s_law_draw_6, sOk, sat_bad, own_c0, own_cs, set_c0, set_cs, getS_c0, getS_cs, e_var, e_bor, e_iou, e_mov, e_frz, frz_some, e_cst, e_glb, e_flat, e_op1, e_op2, e_chn, chn_b, e_and, e_or, e_ife, lst_l, e_tup, e_lst, e_nil, e_cons, e_sub, e_key, e_slc, e_nop, e_rev, e_blt, e_call, it_l, it_t, e_comp, e_val, int_i, e_rng1, e_rng2, zip_l, zip_t, e_zip, e_pop, e_dsp, t_b, t_i, o_neg, o_not, o_add, o_sub, o_mul, o_fdv, o_mod, o_pow, o_lt, o_le, o_gt, o_ge, o_eq, o_ne, o_addL, o_inn, o_nin, o_isn, o_isnn, o_subL, o_subT, o_len, o_lenT, o_tupl, o_list, o_int, o_abs, o_max, o_min, o_gcd, o_sum, o_all, o_any, rb, eqvS, rf_nil, rf_none, rf_some, p_nil, p_none, p_some, a_nm, a_tup, a_nil, a_cons, s_skp, then_nx, then_rt, then_bk, then_ct, s_seq, s_asg, s_fre, s_par, ps_nil, ps_cons, s_exp, s_ret, s_rtn, s_ifs, s_lop, s_brk, s_cnt, s_nvr, s_app, s_set, s_setK, c_lst, ap_lst, si_lst, end_nx, end_rt, oo_nil, oo_0, oo_s, dk_c, dk_m, dk_d, dk_set, dk_can, dk_app, permL, List.filterMap_cons, List.filterMap_nil, List.getElem?_cons_zero, List.getElem?_cons_succ, List.cons_append, List.nil_append, List.append_nil, at0, at1, at2, isi_int, isi_bool, isi_tup, eqvI, Option.some.injEq, exists_eq_left', true_and, and_true, wipeR, Bool.not_true, Bool.not_false, forall_const, List.map_cons, List.map_nil, reduceCtorEq, false_implies, implies_true, true_implies, Bool.true_eq_false, Bool.false_eq_true, eq_self, o_slc, i2_nh]
    refine ⟨⟨by omega, by decide⟩, h0, _, _, rfl, Int.emod_nonneg _ (by omega), Int.emod_lt_of_pos _ h0, _, _, _, rfl, hl, m0, m1, by omega, by omega⟩
  simp only [s_seq] at rest
  simp only [s_law_draw_2, sOk, sat_bad, own_c0, own_cs, set_c0, set_cs, getS_c0, getS_cs, e_var, e_bor, e_iou, e_mov, e_frz, frz_some, e_cst, e_glb, e_flat, e_op1, e_op2, e_chn, chn_b, e_and, e_or, e_ife, lst_l, e_tup, e_lst, e_nil, e_cons, e_sub, e_key, e_slc, e_nop, e_rev, e_blt, e_call, it_l, it_t, e_comp, e_val, int_i, e_rng1, e_rng2, zip_l, zip_t, e_zip, e_pop, e_dsp, t_b, t_i, o_neg, o_not, o_add, o_sub, o_mul, o_fdv, o_mod, o_pow, o_lt, o_le, o_gt, o_ge, o_eq, o_ne, o_addL, o_inn, o_nin, o_isn, o_isnn, o_subL, o_subT, o_len, o_lenT, o_tupl, o_list, o_int, o_abs, o_max, o_min, o_gcd, o_sum, o_all, o_any, rb, eqvS, rf_nil, rf_none, rf_some, p_nil, p_none, p_some, a_nm, a_tup, a_nil, a_cons, s_skp, then_nx, then_rt, then_bk, then_ct, s_seq, s_asg, s_fre, s_par, ps_nil, ps_cons, s_exp, s_ret, s_rtn, s_ifs, s_lop, s_brk, s_cnt, s_nvr, s_app, s_set, s_setK, c_lst, ap_lst, si_lst, end_nx, end_rt, oo_nil, oo_0, oo_s, dk_c, dk_m, dk_d, dk_set, dk_can, dk_app, permL, List.filterMap_cons, List.filterMap_nil, List.getElem?_cons_zero, List.getElem?_cons_succ, List.cons_append, List.nil_append, List.append_nil, at0, at1, at2, isi_int, isi_bool, isi_tup, eqvI, Option.some.injEq, exists_eq_left', true_and, and_true, wipeR, Bool.not_true, Bool.not_false, forall_const, List.map_cons, List.map_nil, reduceCtorEq, false_implies, implies_true, true_implies, Bool.true_eq_false, Bool.false_eq_true, eq_self, o_slc, i2_nh]
  refine ⟨⟨?_, rfl⟩, fun h => ?_, fun h => ?_⟩
  · exact shapedI l
  · have hne : l ≠ [] := by
      rintro rfl
      revert h
      decide
    simp only [b_law_draw_2t, s_law_draw_2t_0, sOk, sat_bad, own_c0, own_cs, set_c0, set_cs, getS_c0, getS_cs, e_var, e_bor, e_iou, e_mov, e_frz, frz_some, e_cst, e_glb, e_flat, e_op1, e_op2, e_chn, chn_b, e_and, e_or, e_ife, lst_l, e_tup, e_lst, e_nil, e_cons, e_sub, e_key, e_slc, e_nop, e_rev, e_blt, e_call, it_l, it_t, e_comp, e_val, int_i, e_rng1, e_rng2, zip_l, zip_t, e_zip, e_pop, e_dsp, t_b, t_i, o_neg, o_not, o_add, o_sub, o_mul, o_fdv, o_mod, o_pow, o_lt, o_le, o_gt, o_ge, o_eq, o_ne, o_addL, o_inn, o_nin, o_isn, o_isnn, o_subL, o_subT, o_len, o_lenT, o_tupl, o_list, o_int, o_abs, o_max, o_min, o_gcd, o_sum, o_all, o_any, rb, eqvS, rf_nil, rf_none, rf_some, p_nil, p_none, p_some, a_nm, a_tup, a_nil, a_cons, s_skp, then_nx, then_rt, then_bk, then_ct, s_seq, s_asg, s_fre, s_par, ps_nil, ps_cons, s_exp, s_ret, s_rtn, s_ifs, s_lop, s_brk, s_cnt, s_nvr, s_app, s_set, s_setK, c_lst, ap_lst, si_lst, end_nx, end_rt, oo_nil, oo_0, oo_s, dk_c, dk_m, dk_d, dk_set, dk_can, dk_app, permL, List.filterMap_cons, List.filterMap_nil, List.getElem?_cons_zero, List.getElem?_cons_succ, List.cons_append, List.nil_append, List.append_nil, at0, at1, at2, isi_int, isi_bool, isi_tup, eqvI, Option.some.injEq, exists_eq_left', true_and, and_true, wipeR, Bool.not_true, Bool.not_false, forall_const, List.map_cons, List.map_nil, reduceCtorEq, false_implies, implies_true, true_implies, Bool.true_eq_false, Bool.false_eq_true, eq_self, o_slc, i2_nh, dk_pop hne, isFlat, true_and]
    simp only [s_law_draw_2t_1, sOk, sat_bad, own_c0, own_cs, set_c0, set_cs, getS_c0, getS_cs, e_var, e_bor, e_iou, e_mov, e_frz, frz_some, e_cst, e_glb, e_flat, e_op1, e_op2, e_chn, chn_b, e_and, e_or, e_ife, lst_l, e_tup, e_lst, e_nil, e_cons, e_sub, e_key, e_slc, e_nop, e_rev, e_blt, e_call, it_l, it_t, e_comp, e_val, int_i, e_rng1, e_rng2, zip_l, zip_t, e_zip, e_pop, e_dsp, t_b, t_i, o_neg, o_not, o_add, o_sub, o_mul, o_fdv, o_mod, o_pow, o_lt, o_le, o_gt, o_ge, o_eq, o_ne, o_addL, o_inn, o_nin, o_isn, o_isnn, o_subL, o_subT, o_len, o_lenT, o_tupl, o_list, o_int, o_abs, o_max, o_min, o_gcd, o_sum, o_all, o_any, rb, eqvS, rf_nil, rf_none, rf_some, p_nil, p_none, p_some, a_nm, a_tup, a_nil, a_cons, s_skp, then_nx, then_rt, then_bk, then_ct, s_seq, s_asg, s_fre, s_par, ps_nil, ps_cons, s_exp, s_ret, s_rtn, s_ifs, s_lop, s_brk, s_cnt, s_nvr, s_app, s_set, s_setK, c_lst, ap_lst, si_lst, end_nx, end_rt, oo_nil, oo_0, oo_s, dk_c, dk_m, dk_d, dk_set, dk_can, dk_app, permL, List.filterMap_cons, List.filterMap_nil, List.getElem?_cons_zero, List.getElem?_cons_succ, List.cons_append, List.nil_append, List.append_nil, at0, at1, at2, isi_int, isi_bool, isi_tup, eqvI, Option.some.injEq, exists_eq_left', true_and, and_true, wipeR, Bool.not_true, Bool.not_false, forall_const, List.map_cons, List.map_nil, reduceCtorEq, false_implies, implies_true, true_implies, Bool.true_eq_false, Bool.false_eq_true, eq_self, o_slc, i2_nh]
    refine ⟨by decide, fun hc => ?_, fun hc => ?_⟩
    · simp only [b_law_draw_2t_1t, s_law_draw_2t_1t_0, sOk, sat_bad, own_c0, own_cs, set_c0, set_cs, getS_c0, getS_cs, e_var, e_bor, e_iou, e_mov, e_frz, frz_some, e_cst, e_glb, e_flat, e_op1, e_op2, e_chn, chn_b, e_and, e_or, e_ife, lst_l, e_tup, e_lst, e_nil, e_cons, e_sub, e_key, e_slc, e_nop, e_rev, e_blt, e_call, it_l, it_t, e_comp, e_val, int_i, e_rng1, e_rng2, zip_l, zip_t, e_zip, e_pop, e_dsp, t_b, t_i, o_neg, o_not, o_add, o_sub, o_mul, o_fdv, o_mod, o_pow, o_lt, o_le, o_gt, o_ge, o_eq, o_ne, o_addL, o_inn, o_nin, o_isn, o_isnn, o_subL, o_subT, o_len, o_lenT, o_tupl, o_list, o_int, o_abs, o_max, o_min, o_gcd, o_sum, o_all, o_any, rb, eqvS, rf_nil, rf_none, rf_some, p_nil, p_none, p_some, a_nm, a_tup, a_nil, a_cons, s_skp, then_nx, then_rt, then_bk, then_ct, s_seq, s_asg, s_fre, s_par, ps_nil, ps_cons, s_exp, s_ret, s_rtn, s_ifs, s_lop, s_brk, s_cnt, s_nvr, s_app, s_set, s_setK, c_lst, ap_lst, si_lst, end_nx, end_rt, oo_nil, oo_0, oo_s, dk_c, dk_m, dk_d, dk_set, dk_can, dk_app, permL, List.filterMap_cons, List.filterMap_nil, List.getElem?_cons_zero, List.getElem?_cons_succ, List.cons_append, List.nil_append, List.append_nil, at0, at1, at2, isi_int, isi_bool, isi_tup, eqvI, Option.some.injEq, exists_eq_left', true_and, and_true, wipeR, Bool.not_true, Bool.not_false, forall_const, List.map_cons, List.map_nil, reduceCtorEq, false_implies, implies_true, true_implies, Bool.true_eq_false, Bool.false_eq_true, eq_self, o_slc, i2_nh]
      refine ⟨⟨by split <;> omega, ?_⟩, ?_⟩
      · split
        · exact hm
        · decide
      · rw [List.length_dropLast]
        refine ⟨by omega, ?_⟩
        simp only [s_law_draw_2t_1t_1, sOk, sat_bad, own_c0, own_cs, set_c0, set_cs, getS_c0, getS_cs, e_var, e_bor, e_iou, e_mov, e_frz, frz_some, e_cst, e_glb, e_flat, e_op1, e_op2, e_chn, chn_b, e_and, e_or, e_ife, lst_l, e_tup, e_lst, e_nil, e_cons, e_sub, e_key, e_slc, e_nop, e_rev, e_blt, e_call, it_l, it_t, e_comp, e_val, int_i, e_rng1, e_rng2, zip_l, zip_t, e_zip, e_pop, e_dsp, t_b, t_i, o_neg, o_not, o_add, o_sub, o_mul, o_fdv, o_mod, o_pow, o_lt, o_le, o_gt, o_ge, o_eq, o_ne, o_addL, o_inn, o_nin, o_isn, o_isnn, o_subL, o_subT, o_len, o_lenT, o_tupl, o_list, o_int, o_abs, o_max, o_min, o_gcd, o_sum, o_all, o_any, rb, eqvS, rf_nil, rf_none, rf_some, p_nil, p_none, p_some, a_nm, a_tup, a_nil, a_cons, s_skp, then_nx, then_rt, then_bk, then_ct, s_seq, s_asg, s_fre, s_par, ps_nil, ps_cons, s_exp, s_ret, s_rtn, s_ifs, s_lop, s_brk, s_cnt, s_nvr, s_app, s_set, s_setK, c_lst, ap_lst, si_lst, end_nx, end_rt, oo_nil, oo_0, oo_s, dk_c, dk_m, dk_d, dk_set, dk_can, dk_app, permL, List.filterMap_cons, List.filterMap_nil, List.getElem?_cons_zero, List.getElem?_cons_succ, List.cons_append, List.nil_append, List.append_nil, at0, at1, at2, isi_int, isi_bool, isi_tup, eqvI, Option.some.injEq, exists_eq_left', true_and, and_true, wipeR, Bool.not_true, Bool.not_false, forall_const, List.map_cons, List.map_nil, reduceCtorEq, false_implies, implies_true, true_implies, Bool.true_eq_false, Bool.false_eq_true, eq_self, o_slc, i2_nh]
        refine ⟨h0, _, _, rfl, Int.emod_nonneg _ (by omega), Int.emod_lt_of_pos _ h0, _, _, _, rfl, ?_, m0, m1, by omega, by omega⟩
        rw [List.length_append, List.length_dropLast]
        simp only [List.length_cons, List.length_nil]
        have : 0 < l.length := List.length_pos_iff.mpr hne
        omega
    · simp only [s_law_draw_2t_2, sOk, sat_bad, own_c0, own_cs, set_c0, set_cs, getS_c0, getS_cs, e_var, e_bor, e_iou, e_mov, e_frz, frz_some, e_cst, e_glb, e_flat, e_op1, e_op2, e_chn, chn_b, e_and, e_or, e_ife, lst_l, e_tup, e_lst, e_nil, e_cons, e_sub, e_key, e_slc, e_nop, e_rev, e_blt, e_call, it_l, it_t, e_comp, e_val, int_i, e_rng1, e_rng2, zip_l, zip_t, e_zip, e_pop, e_dsp, t_b, t_i, o_neg, o_not, o_add, o_sub, o_mul, o_fdv, o_mod, o_pow, o_lt, o_le, o_gt, o_ge, o_eq, o_ne, o_addL, o_inn, o_nin, o_isn, o_isnn, o_subL, o_subT, o_len, o_lenT, o_tupl, o_list, o_int, o_abs, o_max, o_min, o_gcd, o_sum, o_all, o_any, rb, eqvS, rf_nil, rf_none, rf_some, p_nil, p_none, p_some, a_nm, a_tup, a_nil, a_cons, s_skp, then_nx, then_rt, then_bk, then_ct, s_seq, s_asg, s_fre, s_par, ps_nil, ps_cons, s_exp, s_ret, s_rtn, s_ifs, s_lop, s_brk, s_cnt, s_nvr, s_app, s_set, s_setK, c_lst, ap_lst, si_lst, end_nx, end_rt, oo_nil, oo_0, oo_s, dk_c, dk_m, dk_d, dk_set, dk_can, dk_app, permL, List.filterMap_cons, List.filterMap_nil, List.getElem?_cons_zero, List.getElem?_cons_succ, List.cons_append, List.nil_append, List.append_nil, at0, at1, at2, isi_int, isi_bool, isi_tup, eqvI, Option.some.injEq, exists_eq_left', true_and, and_true, wipeR, Bool.not_true, Bool.not_false, forall_const, List.map_cons, List.map_nil, reduceCtorEq, false_implies, implies_true, true_implies, Bool.true_eq_false, Bool.false_eq_true, eq_self, o_slc, i2_nh]
      refine ⟨by omega, ?_⟩
      refine rest _ _ _ ?_ ?_ ?_
      · rw [List.length_dropLast]; omega
      · omega
      · omega
  · exact rest l _ none hl (by omega) (by omega)
end
end K03

set_option Elab.async false
set_option linter.all false
set_option maxRecDepth 100000
set_option maxHeartbeats 1000000
set_option exponentiation.threshold 10000
namespace K03
open PySem Mini Mini.W
section
variable {G : Defs} {fu : Nat}
theorem pick_ok (hD : DrawOk (G i_law_draw)) : PickOk (runDf G fu d_law_pick) := by
  intro b d xs hd hb hne hl
  have hpos : 0 < xs.length := List.length_pos_iff.mpr hne
  rw [s_run rfl]
  show (exS G fu d_law_pick.body [some (2, d), some (0, .list xs)]).sat (endB [2, 0] _)
  simp only [d_law_pick, s_law_pick_0, sOk, sat_bad, own_c0, own_cs, set_c0, set_cs, getS_c0, getS_cs, e_var, e_bor, e_iou, e_mov, e_frz, frz_some, e_cst, e_glb, e_flat, e_op1, e_op2, e_chn, chn_b, e_and, e_or, e_ife, lst_l, e_tup, e_lst, e_nil, e_cons, e_sub, e_key, e_slc, e_nop, e_rev, e_blt, e_call, it_l, it_t, e_comp, e_val, int_i, e_rng1, e_rng2, zip_l, zip_t, e_zip, e_pop, e_dsp, t_b, t_i, o_neg, o_not, o_add, o_sub, o_mul, o_fdv, o_mod, o_pow, o_lt, o_le, o_gt, o_ge, o_eq, o_ne, o_addL, o_inn, o_nin, o_isn, o_isnn, o_subL, o_subT, o_len, o_lenT, o_tupl, o_list, o_int, o_abs, o_max, o_min, o_gcd, o_sum, o_all, o_any, rb, eqvS, rf_nil, rf_none, rf_some, p_nil, p_none, p_some, a_nm, a_tup, a_nil, a_cons, s_skp, then_nx, then_rt, then_bk, then_ct, s_seq, s_asg, s_fre, s_par, ps_nil, ps_cons, s_exp, s_ret, s_rtn, s_ifs, s_lop, s_brk, s_cnt, s_nvr, s_app, s_set, s_setK, c_lst, ap_lst, si_lst, end_nx, end_rt, oo_nil, oo_0, oo_s, dk_c, dk_m, dk_d, dk_set, dk_can, dk_app, permL, List.filterMap_cons, List.filterMap_nil, List.getElem?_cons_zero, List.getElem?_cons_succ, List.cons_append, List.nil_append, List.append_nil, at0, at1, at2, isi_int, isi_bool, isi_tup, eqvI, Option.some.injEq, exists_eq_left', true_and, and_true, wipeR, Bool.not_true, Bool.not_false, forall_const, List.map_cons, List.map_nil, reduceCtorEq, false_implies, implies_true, true_implies, Bool.true_eq_false, Bool.false_eq_true, eq_self, o_slc, i2_nh]
  refine sat_imp (hD b d xs.length hd hb (by omega) (by omega)) ?_
  rintro _ ⟨i, d', rfl, i0, i1, hd'⟩
  simp only [sOk, sat_bad, own_c0, own_cs, set_c0, set_cs, getS_c0, getS_cs, e_var, e_bor, e_iou, e_mov, e_frz, frz_some, e_cst, e_glb, e_flat, e_op1, e_op2, e_chn, chn_b, e_and, e_or, e_ife, lst_l, e_tup, e_lst, e_nil, e_cons, e_sub, e_key, e_slc, e_nop, e_rev, e_blt, e_call, it_l, it_t, e_comp, e_val, int_i, e_rng1, e_rng2, zip_l, zip_t, e_zip, e_pop, e_dsp, t_b, t_i, o_neg, o_not, o_add, o_sub, o_mul, o_fdv, o_mod, o_pow, o_lt, o_le, o_gt, o_ge, o_eq, o_ne, o_addL, o_inn, o_nin, o_isn, o_isnn, o_subL, o_subT, o_len, o_lenT, o_tupl, o_list, o_int, o_abs, o_max, o_min, o_gcd, o_sum, o_all, o_any, rb, eqvS, rf_nil, rf_none, rf_some, p_nil, p_none, p_some, a_nm, a_tup, a_nil, a_cons, s_skp, then_nx, then_rt, then_bk, then_ct, s_seq, s_asg, s_fre, s_par, ps_nil, ps_cons, s_exp, s_ret, s_rtn, s_ifs, s_lop, s_brk, s_cnt, s_nvr, s_app, s_set, s_setK, c_lst, ap_lst, si_lst, end_nx, end_rt, oo_nil, oo_0, oo_s, dk_c, dk_m, dk_d, dk_set, dk_can, dk_app, permL, List.filterMap_cons, List.filterMap_nil, List.getElem?_cons_zero, List.getElem?_cons_succ, List.cons_append, List.nil_append, List.append_nil, at0, at1, at2, isi_int, isi_bool, isi_tup, eqvI, Option.some.injEq, exists_eq_left', true_and, and_true, wipeR, Bool.not_true, Bool.not_false, forall_const, List.map_cons, List.map_nil, reduceCtorEq, false_implies, implies_true, true_implies, Bool.true_eq_false, Bool.false_eq_true, eq_self, o_slc, i2_nh]
  obtain ⟨x, hx, hm⟩ := atI_ok i0 i1
  exact ⟨x, hx, x, d', rfl, hm, hd'⟩
theorem great_ok (hfu : 10 ^ 300 ≤ fu) (hD : DrawOk (G i_law_draw)) : GreatOk (runDf G fu d_law_great) := by
  intro b d top hd hb h0 ht
  have hT : TOP = 10 ^ 60 := rfl
  have h106 : (10 : Int) ^ Int.toNat 6 = 1000000 := rfl
  rw [s_run rfl]
  show (exS G fu d_law_great.body [some (2, d), some (0, .int top), none, none]).sat (endB [2, 0] _)
  simp only [d_law_great, s_law_great_0, sOk, sat_bad, own_c0, own_cs, set_c0, set_cs, getS_c0, getS_cs, e_var, e_bor, e_iou, e_mov, e_frz, frz_some, e_cst, e_glb, e_flat, e_op1, e_op2, e_chn, chn_b, e_and, e_or, e_ife, lst_l, e_tup, e_lst, e_nil, e_cons, e_sub, e_key, e_slc, e_nop, e_rev, e_blt, e_call, it_l, it_t, e_comp, e_val, int_i, e_rng1, e_rng2, zip_l, zip_t, e_zip, e_pop, e_dsp, t_b, t_i, o_neg, o_not, o_add, o_sub, o_mul, o_fdv, o_mod, o_pow, o_lt, o_le, o_gt, o_ge, o_eq, o_ne, o_addL, o_inn, o_nin, o_isn, o_isnn, o_subL, o_subT, o_len, o_lenT, o_tupl, o_list, o_int, o_abs, o_max, o_min, o_gcd, o_sum, o_all, o_any, rb, eqvS, rf_nil, rf_none, rf_some, p_nil, p_none, p_some, a_nm, a_tup, a_nil, a_cons, s_skp, then_nx, then_rt, then_bk, then_ct, s_seq, s_asg, s_fre, s_par, ps_nil, ps_cons, s_exp, s_ret, s_rtn, s_ifs, s_lop, s_brk, s_cnt, s_nvr, s_app, s_set, s_setK, c_lst, ap_lst, si_lst, end_nx, end_rt, oo_nil, oo_0, oo_s, dk_c, dk_m, dk_d, dk_set, dk_can, dk_app, permL, List.filterMap_cons, List.filterMap_nil, List.getElem?_cons_zero, List.getElem?_cons_succ, List.cons_append, List.nil_append, List.append_nil, at0, at1, at2, isi_int, isi_bool, isi_tup, eqvI, Option.some.injEq, exists_eq_left', true_and, and_true, wipeR, Bool.not_true, Bool.not_false, forall_const, List.map_cons, List.map_nil, reduceCtorEq, false_implies, implies_true, true_implies, Bool.true_eq_false, Bool.false_eq_true, eq_self, o_slc, i2_nh, h106]
  refine ⟨by decide, fun hc => ?_, fun hc => ?_⟩
  · have hc : top ≤ 1000000 := of_decide_eq_true hc
    simp only [b_law_great_0t, s_law_great_0t_0, sOk, sat_bad, own_c0, own_cs, set_c0, set_cs, getS_c0, getS_cs, e_var, e_bor, e_iou, e_mov, e_frz, frz_some, e_cst, e_glb, e_flat, e_op1, e_op2, e_chn, chn_b, e_and, e_or, e_ife, lst_l, e_tup, e_lst, e_nil, e_cons, e_sub, e_key, e_slc, e_nop, e_rev, e_blt, e_call, it_l, it_t, e_comp, e_val, int_i, e_rng1, e_rng2, zip_l, zip_t, e_zip, e_pop, e_dsp, t_b, t_i, o_neg, o_not, o_add, o_sub, o_mul, o_fdv, o_mod, o_pow, o_lt, o_le, o_gt, o_ge, o_eq, o_ne, o_addL, o_inn, o_nin, o_isn, o_isnn, o_subL, o_subT, o_len, o_lenT, o_tupl, o_list, o_int, o_abs, o_max, o_min, o_gcd, o_sum, o_all, o_any, rb, eqvS, rf_nil, rf_none, rf_some, p_nil, p_none, p_some, a_nm, a_tup, a_nil, a_cons, s_skp, then_nx, then_rt, then_bk, then_ct, s_seq, s_asg, s_fre, s_par, ps_nil, ps_cons, s_exp, s_ret, s_rtn, s_ifs, s_lop, s_brk, s_cnt, s_nvr, s_app, s_set, s_setK, c_lst, ap_lst, si_lst, end_nx, end_rt, oo_nil, oo_0, oo_s, dk_c, dk_m, dk_d, dk_set, dk_can, dk_app, permL, List.filterMap_cons, List.filterMap_nil, List.getElem?_cons_zero, List.getElem?_cons_succ, List.cons_append, List.nil_append, List.append_nil, at0, at1, at2, isi_int, isi_bool, isi_tup, eqvI, Option.some.injEq, exists_eq_left', true_and, and_true, wipeR, Bool.not_true, Bool.not_false, forall_const, List.map_cons, List.map_nil, reduceCtorEq, false_implies, implies_true, true_implies, Bool.true_eq_false, Bool.false_eq_true, eq_self, o_slc, i2_nh]
    refine sat_imp (hD b d top hd (by omega) h0 (by omega)) ?_
    rintro _ ⟨i, d', rfl, i0, i1, hd'⟩
    simp only [sOk, sat_bad, own_c0, own_cs, set_c0, set_cs, getS_c0, getS_cs, e_var, e_bor, e_iou, e_mov, e_frz, frz_some, e_cst, e_glb, e_flat, e_op1, e_op2, e_chn, chn_b, e_and, e_or, e_ife, lst_l, e_tup, e_lst, e_nil, e_cons, e_sub, e_key, e_slc, e_nop, e_rev, e_blt, e_call, it_l, it_t, e_comp, e_val, int_i, e_rng1, e_rng2, zip_l, zip_t, e_zip, e_pop, e_dsp, t_b, t_i, o_neg, o_not, o_add, o_sub, o_mul, o_fdv, o_mod, o_pow, o_lt, o_le, o_gt, o_ge, o_eq, o_ne, o_addL, o_inn, o_nin, o_isn, o_isnn, o_subL, o_subT, o_len, o_lenT, o_tupl, o_list, o_int, o_abs, o_max, o_min, o_gcd, o_sum, o_all, o_any, rb, eqvS, rf_nil, rf_none, rf_some, p_nil, p_none, p_some, a_nm, a_tup, a_nil, a_cons, s_skp, then_nx, then_rt, then_bk, then_ct, s_seq, s_asg, s_fre, s_par, ps_nil, ps_cons, s_exp, s_ret, s_rtn, s_ifs, s_lop, s_brk, s_cnt, s_nvr, s_app, s_set, s_setK, c_lst, ap_lst, si_lst, end_nx, end_rt, oo_nil, oo_0, oo_s, dk_c, dk_m, dk_d, dk_set, dk_can, dk_app, permL, List.filterMap_cons, List.filterMap_nil, List.getElem?_cons_zero, List.getElem?_cons_succ, List.cons_append, List.nil_append, List.append_nil, at0, at1, at2, isi_int, isi_bool, isi_tup, eqvI, Option.some.injEq, exists_eq_left', true_and, and_true, wipeR, Bool.not_true, Bool.not_false, forall_const, List.map_cons, List.map_nil, reduceCtorEq, false_implies, implies_true, true_implies, Bool.true_eq_false, Bool.false_eq_true, eq_self, o_slc, i2_nh]
    exact ⟨i, d', rfl, i0, i1, hd'.mono (by omega)⟩
  · simp only [s_law_great_1, sOk, sat_bad, own_c0, own_cs, set_c0, set_cs, getS_c0, getS_cs, e_var, e_bor, e_iou, e_mov, e_frz, frz_some, e_cst, e_glb, e_flat, e_op1, e_op2, e_chn, chn_b, e_and, e_or, e_ife, lst_l, e_tup, e_lst, e_nil, e_cons, e_sub, e_key, e_slc, e_nop, e_rev, e_blt, e_call, it_l, it_t, e_comp, e_val, int_i, e_rng1, e_rng2, zip_l, zip_t, e_zip, e_pop, e_dsp, t_b, t_i, o_neg, o_not, o_add, o_sub, o_mul, o_fdv, o_mod, o_pow, o_lt, o_le, o_gt, o_ge, o_eq, o_ne, o_addL, o_inn, o_nin, o_isn, o_isnn, o_subL, o_subT, o_len, o_lenT, o_tupl, o_list, o_int, o_abs, o_max, o_min, o_gcd, o_sum, o_all, o_any, rb, eqvS, rf_nil, rf_none, rf_some, p_nil, p_none, p_some, a_nm, a_tup, a_nil, a_cons, s_skp, then_nx, then_rt, then_bk, then_ct, s_seq, s_asg, s_fre, s_par, ps_nil, ps_cons, s_exp, s_ret, s_rtn, s_ifs, s_lop, s_brk, s_cnt, s_nvr, s_app, s_set, s_setK, c_lst, ap_lst, si_lst, end_nx, end_rt, oo_nil, oo_0, oo_s, dk_c, dk_m, dk_d, dk_set, dk_can, dk_app, permL, List.filterMap_cons, List.filterMap_nil, List.getElem?_cons_zero, List.getElem?_cons_succ, List.cons_append, List.nil_append, List.append_nil, at0, at1, at2, isi_int, isi_bool, isi_tup, eqvI, Option.some.injEq, exists_eq_left', true_and, and_true, wipeR, Bool.not_true, Bool.not_false, forall_const, List.map_cons, List.map_nil, reduceCtorEq, false_implies, implies_true, true_implies, Bool.true_eq_false, Bool.false_eq_true, eq_self, o_slc, i2_nh]
    simp only [s_law_great_2, s_whl]
    refine whl_inv (I := fun j ρ => ∃ (f r : Int) (k : Nat) (d' : PyData), ρ = [some (2, d'), some (0, .int top), some (0, .int f), some (0, .int r)] ∧ 0 ≤ f ∧ f < r ∧ r = 1000000 ^ k ∧ k ≤ 11 ∧ Deck (b + k) d' ∧ j = 11 - k) ?_ fu 11 ⟨0, 1, 0, d, rfl, by omega, by omega, rfl, by omega, hd, rfl⟩ ?_
    · rintro j _ ⟨f, r, k, d', rfl, f0, f1, hr, hk, hd', hj⟩
      simp only [sOk, sat_bad, own_c0, own_cs, set_c0, set_cs, getS_c0, getS_cs, e_var, e_bor, e_iou, e_mov, e_frz, frz_some, e_cst, e_glb, e_flat, e_op1, e_op2, e_chn, chn_b, e_and, e_or, e_ife, lst_l, e_tup, e_lst, e_nil, e_cons, e_sub, e_key, e_slc, e_nop, e_rev, e_blt, e_call, it_l, it_t, e_comp, e_val, int_i, e_rng1, e_rng2, zip_l, zip_t, e_zip, e_pop, e_dsp, t_b, t_i, o_neg, o_not, o_add, o_sub, o_mul, o_fdv, o_mod, o_pow, o_lt, o_le, o_gt, o_ge, o_eq, o_ne, o_addL, o_inn, o_nin, o_isn, o_isnn, o_subL, o_subT, o_len, o_lenT, o_tupl, o_list, o_int, o_abs, o_max, o_min, o_gcd, o_sum, o_all, o_any, rb, eqvS, rf_nil, rf_none, rf_some, p_nil, p_none, p_some, a_nm, a_tup, a_nil, a_cons, s_skp, then_nx, then_rt, then_bk, then_ct, s_seq, s_asg, s_fre, s_par, ps_nil, ps_cons, s_exp, s_ret, s_rtn, s_ifs, s_lop, s_brk, s_cnt, s_nvr, s_app, s_set, s_setK, c_lst, ap_lst, si_lst, end_nx, end_rt, oo_nil, oo_0, oo_s, dk_c, dk_m, dk_d, dk_set, dk_can, dk_app, permL, List.filterMap_cons, List.filterMap_nil, List.getElem?_cons_zero, List.getElem?_cons_succ, List.cons_append, List.nil_append, List.append_nil, at0, at1, at2, isi_int, isi_bool, isi_tup, eqvI, Option.some.injEq, exists_eq_left', true_and, and_true, wipeR, Bool.not_true, Bool.not_false, forall_const, List.map_cons, List.map_nil, reduceCtorEq, false_implies, implies_true, true_implies, Bool.true_eq_false, Bool.false_eq_true, eq_self, o_slc, i2_nh]
      refine ⟨fun hc => ?_, fun hc => ?_⟩
      · have hc : r < top := of_decide_eq_true hc
        have hk2 : k < 11 := by
          rcases Nat.lt_or_ge k 11 with h | h
          · exact h
          · have : k = 11 := by omega
            subst this
            have : (1000000 : Int) ^ 11 = 10 ^ 66 := by decide
            omega
        simp only [b_law_great_2b, s_law_great_2b_0, sOk, sat_bad, own_c0, own_cs, set_c0, set_cs, getS_c0, getS_cs, e_var, e_bor, e_iou, e_mov, e_frz, frz_some, e_cst, e_glb, e_flat, e_op1, e_op2, e_chn, chn_b, e_and, e_or, e_ife, lst_l, e_tup, e_lst, e_nil, e_cons, e_sub, e_key, e_slc, e_nop, e_rev, e_blt, e_call, it_l, it_t, e_comp, e_val, int_i, e_rng1, e_rng2, zip_l, zip_t, e_zip, e_pop, e_dsp, t_b, t_i, o_neg, o_not, o_add, o_sub, o_mul, o_fdv, o_mod, o_pow, o_lt, o_le, o_gt, o_ge, o_eq, o_ne, o_addL, o_inn, o_nin, o_isn, o_isnn, o_subL, o_subT, o_len, o_lenT, o_tupl, o_list, o_int, o_abs, o_max, o_min, o_gcd, o_sum, o_all, o_any, rb, eqvS, rf_nil, rf_none, rf_some, p_nil, p_none, p_some, a_nm, a_tup, a_nil, a_cons, s_skp, then_nx, then_rt, then_bk, then_ct, s_seq, s_asg, s_fre, s_par, ps_nil, ps_cons, s_exp, s_ret, s_rtn, s_ifs, s_lop, s_brk, s_cnt, s_nvr, s_app, s_set, s_setK, c_lst, ap_lst, si_lst, end_nx, end_rt, oo_nil, oo_0, oo_s, dk_c, dk_m, dk_d, dk_set, dk_can, dk_app, permL, List.filterMap_cons, List.filterMap_nil, List.getElem?_cons_zero, List.getElem?_cons_succ, List.cons_append, List.nil_append, List.append_nil, at0, at1, at2, isi_int, isi_bool, isi_tup, eqvI, Option.some.injEq, exists_eq_left', true_and, and_true, wipeR, Bool.not_true, Bool.not_false, forall_const, List.map_cons, List.map_nil, reduceCtorEq, false_implies, implies_true, true_implies, Bool.true_eq_false, Bool.false_eq_true, eq_self, o_slc, i2_nh, h106]
        refine ⟨by decide, mulOk_of (by omega) (by omega), by decide, ?_⟩
        refine sat_imp (hD (b + k) d' 1000000 hd' (by omega) (by omega) (by omega)) ?_
        rintro _ ⟨i, d2, rfl, i0, i1, hd2⟩
        simp only [sOk, sat_bad, own_c0, own_cs, set_c0, set_cs, getS_c0, getS_cs, e_var, e_bor, e_iou, e_mov, e_frz, frz_some, e_cst, e_glb, e_flat, e_op1, e_op2, e_chn, chn_b, e_and, e_or, e_ife, lst_l, e_tup, e_lst, e_nil, e_cons, e_sub, e_key, e_slc, e_nop, e_rev, e_blt, e_call, it_l, it_t, e_comp, e_val, int_i, e_rng1, e_rng2, zip_l, zip_t, e_zip, e_pop, e_dsp, t_b, t_i, o_neg, o_not, o_add, o_sub, o_mul, o_fdv, o_mod, o_pow, o_lt, o_le, o_gt, o_ge, o_eq, o_ne, o_addL, o_inn, o_nin, o_isn, o_isnn, o_subL, o_subT, o_len, o_lenT, o_tupl, o_list, o_int, o_abs, o_max, o_min, o_gcd, o_sum, o_all, o_any, rb, eqvS, rf_nil, rf_none, rf_some, p_nil, p_none, p_some, a_nm, a_tup, a_nil, a_cons, s_skp, then_nx, then_rt, then_bk, then_ct, s_seq, s_asg, s_fre, s_par, ps_nil, ps_cons, s_exp, s_ret, s_rtn, s_ifs, s_lop, s_brk, s_cnt, s_nvr, s_app, s_set, s_setK, c_lst, ap_lst, si_lst, end_nx, end_rt, oo_nil, oo_0, oo_s, dk_c, dk_m, dk_d, dk_set, dk_can, dk_app, permL, List.filterMap_cons, List.filterMap_nil, List.getElem?_cons_zero, List.getElem?_cons_succ, List.cons_append, List.nil_append, List.append_nil, at0, at1, at2, isi_int, isi_bool, isi_tup, eqvI, Option.some.injEq, exists_eq_left', true_and, and_true, wipeR, Bool.not_true, Bool.not_false, forall_const, List.map_cons, List.map_nil, reduceCtorEq, false_implies, implies_true, true_implies, Bool.true_eq_false, Bool.false_eq_true, eq_self, o_slc, i2_nh]
        refine ⟨by decide, mulOk_of (by omega) (by omega), ?_⟩
        refine ⟨.inl trivial, 11 - (k + 1), by omega, _, _, k + 1, d2, rfl, by omega, by omega, ?_, by omega, hd2, rfl⟩
        rw [Int.pow_succ, hr]
      · simp only [s_law_great_3, sOk, sat_bad, own_c0, own_cs, set_c0, set_cs, getS_c0, getS_cs, e_var, e_bor, e_iou, e_mov, e_frz, frz_some, e_cst, e_glb, e_flat, e_op1, e_op2, e_chn, chn_b, e_and, e_or, e_ife, lst_l, e_tup, e_lst, e_nil, e_cons, e_sub, e_key, e_slc, e_nop, e_rev, e_blt, e_call, it_l, it_t, e_comp, e_val, int_i, e_rng1, e_rng2, zip_l, zip_t, e_zip, e_pop, e_dsp, t_b, t_i, o_neg, o_not, o_add, o_sub, o_mul, o_fdv, o_mod, o_pow, o_lt, o_le, o_gt, o_ge, o_eq, o_ne, o_addL, o_inn, o_nin, o_isn, o_isnn, o_subL, o_subT, o_len, o_lenT, o_tupl, o_list, o_int, o_abs, o_max, o_min, o_gcd, o_sum, o_all, o_any, rb, eqvS, rf_nil, rf_none, rf_some, p_nil, p_none, p_some, a_nm, a_tup, a_nil, a_cons, s_skp, then_nx, then_rt, then_bk, then_ct, s_seq, s_asg, s_fre, s_par, ps_nil, ps_cons, s_exp, s_ret, s_rtn, s_ifs, s_lop, s_brk, s_cnt, s_nvr, s_app, s_set, s_setK, c_lst, ap_lst, si_lst, end_nx, end_rt, oo_nil, oo_0, oo_s, dk_c, dk_m, dk_d, dk_set, dk_can, dk_app, permL, List.filterMap_cons, List.filterMap_nil, List.getElem?_cons_zero, List.getElem?_cons_succ, List.cons_append, List.nil_append, List.append_nil, at0, at1, at2, isi_int, isi_bool, isi_tup, eqvI, Option.some.injEq, exists_eq_left', true_and, and_true, wipeR, Bool.not_true, Bool.not_false, forall_const, List.map_cons, List.map_nil, reduceCtorEq, false_implies, implies_true, true_implies, Bool.true_eq_false, Bool.false_eq_true, eq_self, o_slc, i2_nh]
        exact ⟨h0, _, d', rfl, Int.emod_nonneg _ (by omega), Int.emod_lt_of_pos _ h0, hd'.mono (by omega)⟩
    · have : (11 : Nat) < 10 ^ 300 := by decide
      omega
theorem signed_ok (hD : DrawOk (G i_law_draw)) (hG : GreatOk (G i_law_great)) : SignedOk (runDf G fu d_law_signed) := by
  intro b d top hd hb h0 ht
  have hT : TOP = 10 ^ 60 := rfl
  rw [s_run rfl]
  show (exS G fu d_law_signed.body [some (2, d), some (0, .int top), none, none]).sat (endB [2, 0] _)
  simp only [d_law_signed, s_law_signed_0, sOk, sat_bad, own_c0, own_cs, set_c0, set_cs, getS_c0, getS_cs, e_var, e_bor, e_iou, e_mov, e_frz, frz_some, e_cst, e_glb, e_flat, e_op1, e_op2, e_chn, chn_b, e_and, e_or, e_ife, lst_l, e_tup, e_lst, e_nil, e_cons, e_sub, e_key, e_slc, e_nop, e_rev, e_blt, e_call, it_l, it_t, e_comp, e_val, int_i, e_rng1, e_rng2, zip_l, zip_t, e_zip, e_pop, e_dsp, t_b, t_i, o_neg, o_not, o_add, o_sub, o_mul, o_fdv, o_mod, o_pow, o_lt, o_le, o_gt, o_ge, o_eq, o_ne, o_addL, o_inn, o_nin, o_isn, o_isnn, o_subL, o_subT, o_len, o_lenT, o_tupl, o_list, o_int, o_abs, o_max, o_min, o_gcd, o_sum, o_all, o_any, rb, eqvS, rf_nil, rf_none, rf_some, p_nil, p_none, p_some, a_nm, a_tup, a_nil, a_cons, s_skp, then_nx, then_rt, then_bk, then_ct, s_seq, s_asg, s_fre, s_par, ps_nil, ps_cons, s_exp, s_ret, s_rtn, s_ifs, s_lop, s_brk, s_cnt, s_nvr, s_app, s_set, s_setK, c_lst, ap_lst, si_lst, end_nx, end_rt, oo_nil, oo_0, oo_s, dk_c, dk_m, dk_d, dk_set, dk_can, dk_app, permL, List.filterMap_cons, List.filterMap_nil, List.getElem?_cons_zero, List.getElem?_cons_succ, List.cons_append, List.nil_append, List.append_nil, at0, at1, at2, isi_int, isi_bool, isi_tup, eqvI, Option.some.injEq, exists_eq_left', true_and, and_true, wipeR, Bool.not_true, Bool.not_false, forall_const, List.map_cons, List.map_nil, reduceCtorEq, false_implies, implies_true, true_implies, Bool.true_eq_false, Bool.false_eq_true, eq_self, o_slc, i2_nh]
  refine sat_imp (hD b d 5 hd (by omega) (by omega) (by omega)) ?_
  rintro _ ⟨way, d1, rfl, w0, w1, hd1⟩
  simp only [sOk, sat_bad, own_c0, own_cs, set_c0, set_cs, getS_c0, getS_cs, e_var, e_bor, e_iou, e_mov, e_frz, frz_some, e_cst, e_glb, e_flat, e_op1, e_op2, e_chn, chn_b, e_and, e_or, e_ife, lst_l, e_tup, e_lst, e_nil, e_cons, e_sub, e_key, e_slc, e_nop, e_rev, e_blt, e_call, it_l, it_t, e_comp, e_val, int_i, e_rng1, e_rng2, zip_l, zip_t, e_zip, e_pop, e_dsp, t_b, t_i, o_neg, o_not, o_add, o_sub, o_mul, o_fdv, o_mod, o_pow, o_lt, o_le, o_gt, o_ge, o_eq, o_ne, o_addL, o_inn, o_nin, o_isn, o_isnn, o_subL, o_subT, o_len, o_lenT, o_tupl, o_list, o_int, o_abs, o_max, o_min, o_gcd, o_sum, o_all, o_any, rb, eqvS, rf_nil, rf_none, rf_some, p_nil, p_none, p_some, a_nm, a_tup, a_nil, a_cons, s_skp, then_nx, then_rt, then_bk, then_ct, s_seq, s_asg, s_fre, s_par, ps_nil, ps_cons, s_exp, s_ret, s_rtn, s_ifs, s_lop, s_brk, s_cnt, s_nvr, s_app, s_set, s_setK, c_lst, ap_lst, si_lst, end_nx, end_rt, oo_nil, oo_0, oo_s, dk_c, dk_m, dk_d, dk_set, dk_can, dk_app, permL, List.filterMap_cons, List.filterMap_nil, List.getElem?_cons_zero, List.getElem?_cons_succ, List.cons_append, List.nil_append, List.append_nil, at0, at1, at2, isi_int, isi_bool, isi_tup, eqvI, Option.some.injEq, exists_eq_left', true_and, and_true, wipeR, Bool.not_true, Bool.not_false, forall_const, List.map_cons, List.map_nil, reduceCtorEq, false_implies, implies_true, true_implies, Bool.true_eq_false, Bool.false_eq_true, eq_self, o_slc, i2_nh]
  simp only [s_law_signed_1, sOk, sat_bad, own_c0, own_cs, set_c0, set_cs, getS_c0, getS_cs, e_var, e_bor, e_iou, e_mov, e_frz, frz_some, e_cst, e_glb, e_flat, e_op1, e_op2, e_chn, chn_b, e_and, e_or, e_ife, lst_l, e_tup, e_lst, e_nil, e_cons, e_sub, e_key, e_slc, e_nop, e_rev, e_blt, e_call, it_l, it_t, e_comp, e_val, int_i, e_rng1, e_rng2, zip_l, zip_t, e_zip, e_pop, e_dsp, t_b, t_i, o_neg, o_not, o_add, o_sub, o_mul, o_fdv, o_mod, o_pow, o_lt, o_le, o_gt, o_ge, o_eq, o_ne, o_addL, o_inn, o_nin, o_isn, o_isnn, o_subL, o_subT, o_len, o_lenT, o_tupl, o_list, o_int, o_abs, o_max, o_min, o_gcd, o_sum, o_all, o_any, rb, eqvS, rf_nil, rf_none, rf_some, p_nil, p_none, p_some, a_nm, a_tup, a_nil, a_cons, s_skp, then_nx, then_rt, then_bk, then_ct, s_seq, s_asg, s_fre, s_par, ps_nil, ps_cons, s_exp, s_ret, s_rtn, s_ifs, s_lop, s_brk, s_cnt, s_nvr, s_app, s_set, s_setK, c_lst, ap_lst, si_lst, end_nx, end_rt, oo_nil, oo_0, oo_s, dk_c, dk_m, dk_d, dk_set, dk_can, dk_app, permL, List.filterMap_cons, List.filterMap_nil, List.getElem?_cons_zero, List.getElem?_cons_succ, List.cons_append, List.nil_append, List.append_nil, at0, at1, at2, isi_int, isi_bool, isi_tup, eqvI, Option.some.injEq, exists_eq_left', true_and, and_true, wipeR, Bool.not_true, Bool.not_false, forall_const, List.map_cons, List.map_nil, reduceCtorEq, false_implies, implies_true, true_implies, Bool.true_eq_false, Bool.false_eq_true, eq_self, o_slc, i2_nh]
  refine ⟨⟨rfl, rfl⟩, fun hc => ?_, fun hc => ?_⟩
  · simp only [b_law_signed_1t, s_law_signed_1t_0, sOk, sat_bad, own_c0, own_cs, set_c0, set_cs, getS_c0, getS_cs, e_var, e_bor, e_iou, e_mov, e_frz, frz_some, e_cst, e_glb, e_flat, e_op1, e_op2, e_chn, chn_b, e_and, e_or, e_ife, lst_l, e_tup, e_lst, e_nil, e_cons, e_sub, e_key, e_slc, e_nop, e_rev, e_blt, e_call, it_l, it_t, e_comp, e_val, int_i, e_rng1, e_rng2, zip_l, zip_t, e_zip, e_pop, e_dsp, t_b, t_i, o_neg, o_not, o_add, o_sub, o_mul, o_fdv, o_mod, o_pow, o_lt, o_le, o_gt, o_ge, o_eq, o_ne, o_addL, o_inn, o_nin, o_isn, o_isnn, o_subL, o_subT, o_len, o_lenT, o_tupl, o_list, o_int, o_abs, o_max, o_min, o_gcd, o_sum, o_all, o_any, rb, eqvS, rf_nil, rf_none, rf_some, p_nil, p_none, p_some, a_nm, a_tup, a_nil, a_cons, s_skp, then_nx, then_rt, then_bk, then_ct, s_seq, s_asg, s_fre, s_par, ps_nil, ps_cons, s_exp, s_ret, s_rtn, s_ifs, s_lop, s_brk, s_cnt, s_nvr, s_app, s_set, s_setK, c_lst, ap_lst, si_lst, end_nx, end_rt, oo_nil, oo_0, oo_s, dk_c, dk_m, dk_d, dk_set, dk_can, dk_app, permL, List.filterMap_cons, List.filterMap_nil, List.getElem?_cons_zero, List.getElem?_cons_succ, List.cons_append, List.nil_append, List.append_nil, at0, at1, at2, isi_int, isi_bool, isi_tup, eqvI, Option.some.injEq, exists_eq_left', true_and, and_true, wipeR, Bool.not_true, Bool.not_false, forall_const, List.map_cons, List.map_nil, reduceCtorEq, false_implies, implies_true, true_implies, Bool.true_eq_false, Bool.false_eq_true, eq_self, o_slc, i2_nh]
    refine sat_imp (hD _ d1 9 hd1 (by omega) (by omega) (by omega)) ?_
    rintro _ ⟨i, d2, rfl, i0, i1, hd2⟩
    simp only [sOk, sat_bad, own_c0, own_cs, set_c0, set_cs, getS_c0, getS_cs, e_var, e_bor, e_iou, e_mov, e_frz, frz_some, e_cst, e_glb, e_flat, e_op1, e_op2, e_chn, chn_b, e_and, e_or, e_ife, lst_l, e_tup, e_lst, e_nil, e_cons, e_sub, e_key, e_slc, e_nop, e_rev, e_blt, e_call, it_l, it_t, e_comp, e_val, int_i, e_rng1, e_rng2, zip_l, zip_t, e_zip, e_pop, e_dsp, t_b, t_i, o_neg, o_not, o_add, o_sub, o_mul, o_fdv, o_mod, o_pow, o_lt, o_le, o_gt, o_ge, o_eq, o_ne, o_addL, o_inn, o_nin, o_isn, o_isnn, o_subL, o_subT, o_len, o_lenT, o_tupl, o_list, o_int, o_abs, o_max, o_min, o_gcd, o_sum, o_all, o_any, rb, eqvS, rf_nil, rf_none, rf_some, p_nil, p_none, p_some, a_nm, a_tup, a_nil, a_cons, s_skp, then_nx, then_rt, then_bk, then_ct, s_seq, s_asg, s_fre, s_par, ps_nil, ps_cons, s_exp, s_ret, s_rtn, s_ifs, s_lop, s_brk, s_cnt, s_nvr, s_app, s_set, s_setK, c_lst, ap_lst, si_lst, end_nx, end_rt, oo_nil, oo_0, oo_s, dk_c, dk_m, dk_d, dk_set, dk_can, dk_app, permL, List.filterMap_cons, List.filterMap_nil, List.getElem?_cons_zero, List.getElem?_cons_succ, List.cons_append, List.nil_append, List.append_nil, at0, at1, at2, isi_int, isi_bool, isi_tup, eqvI, Option.some.injEq, exists_eq_left', true_and, and_true, wipeR, Bool.not_true, Bool.not_false, forall_const, List.map_cons, List.map_nil, reduceCtorEq, false_implies, implies_true, true_implies, Bool.true_eq_false, Bool.false_eq_true, eq_self, o_slc, i2_nh]
    exact ⟨_, d2, rfl, by omega, by omega, hd2.mono (by omega)⟩
  · have tail : ∀ (d2 : PyData) (x : Int), Deck (b + 25) d2 → -(TOP + 9) ≤ x → x ≤ TOP + 9 → (exS G fu s_law_signed_3 [some (2, d2), some (0, .int top), some (0, .int way), some (0, .int x)]).sat (endB [2, 0] fun r => ∃ i d', r = (PyData.int i, [d']) ∧ -(TOP + 9) ≤ i ∧ i ≤ TOP + 9 ∧ Deck (b + 30) d') := by
      intro d2 x hd2 x0 x1
      simp only [s_law_signed_3, sOk, sat_bad, own_c0, own_cs, set_c0, set_cs, getS_c0, getS_cs, e_var, e_bor, e_iou, e_mov, e_frz, frz_some, e_cst, e_glb, e_flat, e_op1, e_op2, e_chn, chn_b, e_and, e_or, e_ife, lst_l, e_tup, e_lst, e_nil, e_cons, e_sub, e_key, e_slc, e_nop, e_rev, e_blt, e_call, it_l, it_t, e_comp, e_val, int_i, e_rng1, e_rng2, zip_l, zip_t, e_zip, e_pop, e_dsp, t_b, t_i, o_neg, o_not, o_add, o_sub, o_mul, o_fdv, o_mod, o_pow, o_lt, o_le, o_gt, o_ge, o_eq, o_ne, o_addL, o_inn, o_nin, o_isn, o_isnn, o_subL, o_subT, o_len, o_lenT, o_tupl, o_list, o_int, o_abs, o_max, o_min, o_gcd, o_sum, o_all, o_any, rb, eqvS, rf_nil, rf_none, rf_some, p_nil, p_none, p_some, a_nm, a_tup, a_nil, a_cons, s_skp, then_nx, then_rt, then_bk, then_ct, s_seq, s_asg, s_fre, s_par, ps_nil, ps_cons, s_exp, s_ret, s_rtn, s_ifs, s_lop, s_brk, s_cnt, s_nvr, s_app, s_set, s_setK, c_lst, ap_lst, si_lst, end_nx, end_rt, oo_nil, oo_0, oo_s, dk_c, dk_m, dk_d, dk_set, dk_can, dk_app, permL, List.filterMap_cons, List.filterMap_nil, List.getElem?_cons_zero, List.getElem?_cons_succ, List.cons_append, List.nil_append, List.append_nil, at0, at1, at2, isi_int, isi_bool, isi_tup, eqvI, Option.some.injEq, exists_eq_left', true_and, and_true, wipeR, Bool.not_true, Bool.not_false, forall_const, List.map_cons, List.map_nil, reduceCtorEq, false_implies, implies_true, true_implies, Bool.true_eq_false, Bool.false_eq_true, eq_self, o_slc, i2_nh]
      refine sat_imp (hD _ d2 2 hd2 (by omega) (by omega) (by omega)) ?_
      rintro _ ⟨i, d3, rfl, i0, i1, hd3⟩
      simp only [sOk, sat_bad, own_c0, own_cs, set_c0, set_cs, getS_c0, getS_cs, e_var, e_bor, e_iou, e_mov, e_frz, frz_some, e_cst, e_glb, e_flat, e_op1, e_op2, e_chn, chn_b, e_and, e_or, e_ife, lst_l, e_tup, e_lst, e_nil, e_cons, e_sub, e_key, e_slc, e_nop, e_rev, e_blt, e_call, it_l, it_t, e_comp, e_val, int_i, e_rng1, e_rng2, zip_l, zip_t, e_zip, e_pop, e_dsp, t_b, t_i, o_neg, o_not, o_add, o_sub, o_mul, o_fdv, o_mod, o_pow, o_lt, o_le, o_gt, o_ge, o_eq, o_ne, o_addL, o_inn, o_nin, o_isn, o_isnn, o_subL, o_subT, o_len, o_lenT, o_tupl, o_list, o_int, o_abs, o_max, o_min, o_gcd, o_sum, o_all, o_any, rb, eqvS, rf_nil, rf_none, rf_some, p_nil, p_none, p_some, a_nm, a_tup, a_nil, a_cons, s_skp, then_nx, then_rt, then_bk, then_ct, s_seq, s_asg, s_fre, s_par, ps_nil, ps_cons, s_exp, s_ret, s_rtn, s_ifs, s_lop, s_brk, s_cnt, s_nvr, s_app, s_set, s_setK, c_lst, ap_lst, si_lst, end_nx, end_rt, oo_nil, oo_0, oo_s, dk_c, dk_m, dk_d, dk_set, dk_can, dk_app, permL, List.filterMap_cons, List.filterMap_nil, List.getElem?_cons_zero, List.getElem?_cons_succ, List.cons_append, List.nil_append, List.append_nil, at0, at1, at2, isi_int, isi_bool, isi_tup, eqvI, Option.some.injEq, exists_eq_left', true_and, and_true, wipeR, Bool.not_true, Bool.not_false, forall_const, List.map_cons, List.map_nil, reduceCtorEq, false_implies, implies_true, true_implies, Bool.true_eq_false, Bool.false_eq_true, eq_self, o_slc, i2_nh]
      refine ⟨⟨rfl, rfl⟩, fun _ => ?_, fun _ => ?_⟩
      · exact ⟨_, d3, rfl, by omega, by omega, hd3.mono (by omega)⟩
      · exact ⟨_, d3, rfl, by omega, by omega, hd3.mono (by omega)⟩
    simp only [s_law_signed_2, sOk, sat_bad, own_c0, own_cs, set_c0, set_cs, getS_c0, getS_cs, e_var, e_bor, e_iou, e_mov, e_frz, frz_some, e_cst, e_glb, e_flat, e_op1, e_op2, e_chn, chn_b, e_and, e_or, e_ife, lst_l, e_tup, e_lst, e_nil, e_cons, e_sub, e_key, e_slc, e_nop, e_rev, e_blt, e_call, it_l, it_t, e_comp, e_val, int_i, e_rng1, e_rng2, zip_l, zip_t, e_zip, e_pop, e_dsp, t_b, t_i, o_neg, o_not, o_add, o_sub, o_mul, o_fdv, o_mod, o_pow, o_lt, o_le, o_gt, o_ge, o_eq, o_ne, o_addL, o_inn, o_nin, o_isn, o_isnn, o_subL, o_subT, o_len, o_lenT, o_tupl, o_list, o_int, o_abs, o_max, o_min, o_gcd, o_sum, o_all, o_any, rb, eqvS, rf_nil, rf_none, rf_some, p_nil, p_none, p_some, a_nm, a_tup, a_nil, a_cons, s_skp, then_nx, then_rt, then_bk, then_ct, s_seq, s_asg, s_fre, s_par, ps_nil, ps_cons, s_exp, s_ret, s_rtn, s_ifs, s_lop, s_brk, s_cnt, s_nvr, s_app, s_set, s_setK, c_lst, ap_lst, si_lst, end_nx, end_rt, oo_nil, oo_0, oo_s, dk_c, dk_m, dk_d, dk_set, dk_can, dk_app, permL, List.filterMap_cons, List.filterMap_nil, List.getElem?_cons_zero, List.getElem?_cons_succ, List.cons_append, List.nil_append, List.append_nil, at0, at1, at2, isi_int, isi_bool, isi_tup, eqvI, Option.some.injEq, exists_eq_left', true_and, and_true, wipeR, Bool.not_true, Bool.not_false, forall_const, List.map_cons, List.map_nil, reduceCtorEq, false_implies, implies_true, true_implies, Bool.true_eq_false, Bool.false_eq_true, eq_self, o_slc, i2_nh]
    refine ⟨⟨rfl, rfl⟩, fun _ => ?_, fun _ => ?_⟩
    · refine sat_imp (hD _ d1 3 hd1 (by omega) (by omega) (by omega)) ?_
      rintro _ ⟨i, d2, rfl, i0, i1, hd2⟩
      simp only [sOk, sat_bad, own_c0, own_cs, set_c0, set_cs, getS_c0, getS_cs, e_var, e_bor, e_iou, e_mov, e_frz, frz_some, e_cst, e_glb, e_flat, e_op1, e_op2, e_chn, chn_b, e_and, e_or, e_ife, lst_l, e_tup, e_lst, e_nil, e_cons, e_sub, e_key, e_slc, e_nop, e_rev, e_blt, e_call, it_l, it_t, e_comp, e_val, int_i, e_rng1, e_rng2, zip_l, zip_t, e_zip, e_pop, e_dsp, t_b, t_i, o_neg, o_not, o_add, o_sub, o_mul, o_fdv, o_mod, o_pow, o_lt, o_le, o_gt, o_ge, o_eq, o_ne, o_addL, o_inn, o_nin, o_isn, o_isnn, o_subL, o_subT, o_len, o_lenT, o_tupl, o_list, o_int, o_abs, o_max, o_min, o_gcd, o_sum, o_all, o_any, rb, eqvS, rf_nil, rf_none, rf_some, p_nil, p_none, p_some, a_nm, a_tup, a_nil, a_cons, s_skp, then_nx, then_rt, then_bk, then_ct, s_seq, s_asg, s_fre, s_par, ps_nil, ps_cons, s_exp, s_ret, s_rtn, s_ifs, s_lop, s_brk, s_cnt, s_nvr, s_app, s_set, s_setK, c_lst, ap_lst, si_lst, end_nx, end_rt, oo_nil, oo_0, oo_s, dk_c, dk_m, dk_d, dk_set, dk_can, dk_app, permL, List.filterMap_cons, List.filterMap_nil, List.getElem?_cons_zero, List.getElem?_cons_succ, List.cons_append, List.nil_append, List.append_nil, at0, at1, at2, isi_int, isi_bool, isi_tup, eqvI, Option.some.injEq, exists_eq_left', true_and, and_true, wipeR, Bool.not_true, Bool.not_false, forall_const, List.map_cons, List.map_nil, reduceCtorEq, false_implies, implies_true, true_implies, Bool.true_eq_false, Bool.false_eq_true, eq_self, o_slc, i2_nh]
      refine tail d2 _ (hd2.mono ?_) ?_ ?_ <;> omega
    · refine sat_imp (hG _ d1 top hd1 (by omega) h0 ht) ?_
      rintro _ ⟨i, d2, rfl, i0, i1, hd2⟩
      simp only [sOk, sat_bad, own_c0, own_cs, set_c0, set_cs, getS_c0, getS_cs, e_var, e_bor, e_iou, e_mov, e_frz, frz_some, e_cst, e_glb, e_flat, e_op1, e_op2, e_chn, chn_b, e_and, e_or, e_ife, lst_l, e_tup, e_lst, e_nil, e_cons, e_sub, e_key, e_slc, e_nop, e_rev, e_blt, e_call, it_l, it_t, e_comp, e_val, int_i, e_rng1, e_rng2, zip_l, zip_t, e_zip, e_pop, e_dsp, t_b, t_i, o_neg, o_not, o_add, o_sub, o_mul, o_fdv, o_mod, o_pow, o_lt, o_le, o_gt, o_ge, o_eq, o_ne, o_addL, o_inn, o_nin, o_isn, o_isnn, o_subL, o_subT, o_len, o_lenT, o_tupl, o_list, o_int, o_abs, o_max, o_min, o_gcd, o_sum, o_all, o_any, rb, eqvS, rf_nil, rf_none, rf_some, p_nil, p_none, p_some, a_nm, a_tup, a_nil, a_cons, s_skp, then_nx, then_rt, then_bk, then_ct, s_seq, s_asg, s_fre, s_par, ps_nil, ps_cons, s_exp, s_ret, s_rtn, s_ifs, s_lop, s_brk, s_cnt, s_nvr, s_app, s_set, s_setK, c_lst, ap_lst, si_lst, end_nx, end_rt, oo_nil, oo_0, oo_s, dk_c, dk_m, dk_d, dk_set, dk_can, dk_app, permL, List.filterMap_cons, List.filterMap_nil, List.getElem?_cons_zero, List.getElem?_cons_succ, List.cons_append, List.nil_append, List.append_nil, at0, at1, at2, isi_int, isi_bool, isi_tup, eqvI, Option.some.injEq, exists_eq_left', true_and, and_true, wipeR, Bool.not_true, Bool.not_false, forall_const, List.map_cons, List.map_nil, reduceCtorEq, false_implies, implies_true, true_implies, Bool.true_eq_false, Bool.false_eq_true, eq_self, o_slc, i2_nh]
      refine tail d2 _ (hd2.mono ?_) ?_ ?_ <;> omega
theorem foldl_ge : ∀ (l : List Int) (a : Int), 1 ≤ a → (∀ x ∈ l, 1 ≤ x) → a ≤ l.foldl (· * ·) a
  | [], a, _, _ => Int.le_refl _
  | x :: l, a, h, hx => by
    have h1 : 1 ≤ x := hx x List.mem_cons_self
    have h2 : a ≤ a * x := by
      have := Int.mul_le_mul_of_nonneg_left h1 (show 0 ≤ a by omega)
      rwa [Int.mul_one] at this
    exact Int.le_trans h2 (foldl_ge l (a * x) (by omega) fun y hy => hx y (List.mem_cons_of_mem _ hy))
theorem product_ok : ProductOk (runDf G fu d_law_product) := by
  intro l hx hb
  rw [s_run rfl]
  show (exS G fu d_law_product.body [some (0, .list (l.map .int)), none, none]).sat (endB [0] _)
  simp only [d_law_product, s_law_product_0, sOk, sat_bad, own_c0, own_cs, set_c0, set_cs, getS_c0, getS_cs, e_var, e_bor, e_iou, e_mov, e_frz, frz_some, e_cst, e_glb, e_flat, e_op1, e_op2, e_chn, chn_b, e_and, e_or, e_ife, lst_l, e_tup, e_lst, e_nil, e_cons, e_sub, e_key, e_slc, e_nop, e_rev, e_blt, e_call, it_l, it_t, e_comp, e_val, int_i, e_rng1, e_rng2, zip_l, zip_t, e_zip, e_pop, e_dsp, t_b, t_i, o_neg, o_not, o_add, o_sub, o_mul, o_fdv, o_mod, o_pow, o_lt, o_le, o_gt, o_ge, o_eq, o_ne, o_addL, o_inn, o_nin, o_isn, o_isnn, o_subL, o_subT, o_len, o_lenT, o_tupl, o_list, o_int, o_abs, o_max, o_min, o_gcd, o_sum, o_all, o_any, rb, eqvS, rf_nil, rf_none, rf_some, p_nil, p_none, p_some, a_nm, a_tup, a_nil, a_cons, s_skp, then_nx, then_rt, then_bk, then_ct, s_seq, s_asg, s_fre, s_par, ps_nil, ps_cons, s_exp, s_ret, s_rtn, s_ifs, s_lop, s_brk, s_cnt, s_nvr, s_app, s_set, s_setK, c_lst, ap_lst, si_lst, end_nx, end_rt, oo_nil, oo_0, oo_s, dk_c, dk_m, dk_d, dk_set, dk_can, dk_app, permL, List.filterMap_cons, List.filterMap_nil, List.getElem?_cons_zero, List.getElem?_cons_succ, List.cons_append, List.nil_append, List.append_nil, at0, at1, at2, isi_int, isi_bool, isi_tup, eqvI, Option.some.injEq, exists_eq_left', true_and, and_true, wipeR, Bool.not_true, Bool.not_false, forall_const, List.map_cons, List.map_nil, reduceCtorEq, false_implies, implies_true, true_implies, Bool.true_eq_false, Bool.false_eq_true, eq_self, o_slc, i2_nh]
  simp only [s_law_product_1, sOk, sat_bad, own_c0, own_cs, set_c0, set_cs, getS_c0, getS_cs, e_var, e_bor, e_iou, e_mov, e_frz, frz_some, e_cst, e_glb, e_flat, e_op1, e_op2, e_chn, chn_b, e_and, e_or, e_ife, lst_l, e_tup, e_lst, e_nil, e_cons, e_sub, e_key, e_slc, e_nop, e_rev, e_blt, e_call, it_l, it_t, e_comp, e_val, int_i, e_rng1, e_rng2, zip_l, zip_t, e_zip, e_pop, e_dsp, t_b, t_i, o_neg, o_not, o_add, o_sub, o_mul, o_fdv, o_mod, o_pow, o_lt, o_le, o_gt, o_ge, o_eq, o_ne, o_addL, o_inn, o_nin, o_isn, o_isnn, o_subL, o_subT, o_len, o_lenT, o_tupl, o_list, o_int, o_abs, o_max, o_min, o_gcd, o_sum, o_all, o_any, rb, eqvS, rf_nil, rf_none, rf_some, p_nil, p_none, p_some, a_nm, a_tup, a_nil, a_cons, s_skp, then_nx, then_rt, then_bk, then_ct, s_seq, s_asg, s_fre, s_par, ps_nil, ps_cons, s_exp, s_ret, s_rtn, s_ifs, s_lop, s_brk, s_cnt, s_nvr, s_app, s_set, s_setK, c_lst, ap_lst, si_lst, end_nx, end_rt, oo_nil, oo_0, oo_s, dk_c, dk_m, dk_d, dk_set, dk_can, dk_app, permL, List.filterMap_cons, List.filterMap_nil, List.getElem?_cons_zero, List.getElem?_cons_succ, List.cons_append, List.nil_append, List.append_nil, at0, at1, at2, isi_int, isi_bool, isi_tup, eqvI, Option.some.injEq, exists_eq_left', true_and, and_true, wipeR, Bool.not_true, Bool.not_false, forall_const, List.map_cons, List.map_nil, reduceCtorEq, false_implies, implies_true, true_implies, Bool.true_eq_false, Bool.false_eq_true, eq_self, o_slc, i2_nh]
  have key : ∀ (l2 : List Int) (a : Int) (s : Slot), 1 ≤ a → (∀ x ∈ l2, 1 ≤ x) → l2.foldl (· * ·) a ≤ 2 ^ 4000 → ∀ Q : Fl × Rho → Prop, (∀ s', Q (.nx, [some (0, .list (l.map .int)), some (0, .int (l2.foldl (· * ·) a)), s'])) →
      (loopL (loopB G fu (.nm 2) b_law_product_1b) (l2.map .int) [some (0, .list (l.map .int)), some (0, .int a), s]).sat Q := by
    intro l2
    induction l2 with
    | nil => intro a s _ _ _ Q h; exact h s
    | cons x l2 ih =>
      intro a s ha hx hb Q h
      have h1 : 1 ≤ x := hx x List.mem_cons_self
      have h2 : a ≤ a * x := by
        have := Int.mul_le_mul_of_nonneg_left h1 (show 0 ≤ a by omega)
        rwa [Int.mul_one] at this
      have h3 : x ≤ a * x := by
        have := Int.mul_le_mul_of_nonneg_right ha (show 0 ≤ x by omega)
        rwa [Int.one_mul] at this
      have hx' : ∀ y ∈ l2, 1 ≤ y := fun y hy => hx y (List.mem_cons_of_mem _ hy)
      have h4 : a * x ≤ 2 ^ 4000 := Int.le_trans (foldl_ge l2 (a * x) (by omega) hx') hb
      simp only [List.map_cons, loopL, Out.sat_bind, loopB_sat, b_law_product_1b, s_law_product_1b_0, sOk, sat_bad, own_c0, own_cs, set_c0, set_cs, getS_c0, getS_cs, e_var, e_bor, e_iou, e_mov, e_frz, frz_some, e_cst, e_glb, e_flat, e_op1, e_op2, e_chn, chn_b, e_and, e_or, e_ife, lst_l, e_tup, e_lst, e_nil, e_cons, e_sub, e_key, e_slc, e_nop, e_rev, e_blt, e_call, it_l, it_t, e_comp, e_val, int_i, e_rng1, e_rng2, zip_l, zip_t, e_zip, e_pop, e_dsp, t_b, t_i, o_neg, o_not, o_add, o_sub, o_mul, o_fdv, o_mod, o_pow, o_lt, o_le, o_gt, o_ge, o_eq, o_ne, o_addL, o_inn, o_nin, o_isn, o_isnn, o_subL, o_subT, o_len, o_lenT, o_tupl, o_list, o_int, o_abs, o_max, o_min, o_gcd, o_sum, o_all, o_any, rb, eqvS, rf_nil, rf_none, rf_some, p_nil, p_none, p_some, a_nm, a_tup, a_nil, a_cons, s_skp, then_nx, then_rt, then_bk, then_ct, s_seq, s_asg, s_fre, s_par, ps_nil, ps_cons, s_exp, s_ret, s_rtn, s_ifs, s_lop, s_brk, s_cnt, s_nvr, s_app, s_set, s_setK, c_lst, ap_lst, si_lst, end_nx, end_rt, oo_nil, oo_0, oo_s, dk_c, dk_m, dk_d, dk_set, dk_can, dk_app, permL, List.filterMap_cons, List.filterMap_nil, List.getElem?_cons_zero, List.getElem?_cons_succ, List.cons_append, List.nil_append, List.append_nil, at0, at1, at2, isi_int, isi_bool, isi_tup, eqvI, Option.some.injEq, exists_eq_left', true_and, and_true, wipeR, Bool.not_true, Bool.not_false, forall_const, List.map_cons, List.map_nil, reduceCtorEq, false_implies, implies_true, true_implies, Bool.true_eq_false, Bool.false_eq_true, eq_self, o_slc, i2_nh]
      refine ⟨mulOk_of (by omega) (by omega), ?_⟩
      exact ih (a * x) _ (by omega) hx' hb Q h
  refine key l 1 none (by omega) hx hb _ fun s' => ?_
  simp only [s_law_product_2, sOk, sat_bad, own_c0, own_cs, set_c0, set_cs, getS_c0, getS_cs, e_var, e_bor, e_iou, e_mov, e_frz, frz_some, e_cst, e_glb, e_flat, e_op1, e_op2, e_chn, chn_b, e_and, e_or, e_ife, lst_l, e_tup, e_lst, e_nil, e_cons, e_sub, e_key, e_slc, e_nop, e_rev, e_blt, e_call, it_l, it_t, e_comp, e_val, int_i, e_rng1, e_rng2, zip_l, zip_t, e_zip, e_pop, e_dsp, t_b, t_i, o_neg, o_not, o_add, o_sub, o_mul, o_fdv, o_mod, o_pow, o_lt, o_le, o_gt, o_ge, o_eq, o_ne, o_addL, o_inn, o_nin, o_isn, o_isnn, o_subL, o_subT, o_len, o_lenT, o_tupl, o_list, o_int, o_abs, o_max, o_min, o_gcd, o_sum, o_all, o_any, rb, eqvS, rf_nil, rf_none, rf_some, p_nil, p_none, p_some, a_nm, a_tup, a_nil, a_cons, s_skp, then_nx, then_rt, then_bk, then_ct, s_seq, s_asg, s_fre, s_par, ps_nil, ps_cons, s_exp, s_ret, s_rtn, s_ifs, s_lop, s_brk, s_cnt, s_nvr, s_app, s_set, s_setK, c_lst, ap_lst, si_lst, end_nx, end_rt, oo_nil, oo_0, oo_s, dk_c, dk_m, dk_d, dk_set, dk_can, dk_app, permL, List.filterMap_cons, List.filterMap_nil, List.getElem?_cons_zero, List.getElem?_cons_succ, List.cons_append, List.nil_append, List.append_nil, at0, at1, at2, isi_int, isi_bool, isi_tup, eqvI, Option.some.injEq, exists_eq_left', true_and, and_true, wipeR, Bool.not_true, Bool.not_false, forall_const, List.map_cons, List.map_nil, reduceCtorEq, false_implies, implies_true, true_implies, Bool.true_eq_false, Bool.false_eq_true, eq_self, o_slc, i2_nh]
end
end K03

set_option Elab.async false
set_option linter.all false
set_option maxRecDepth 100000
set_option maxHeartbeats 1000000
set_option exponentiation.threshold 10000
namespace K03
open PySem Mini Mini.W
section
variable {G : Defs} {fu : Nat}
theorem is_integer_ok : IsIntOk (runDf G fu d_is_integer) := by
  intro i
  unfold TrueOk
  rw [s_run rfl]
  show (exS G fu d_is_integer.body [some (0, .int i)]).sat (endB [0] _)
  simp only [d_is_integer, s_is_integer_0, sOk, sat_bad, own_c0, own_cs, set_c0, set_cs, getS_c0, getS_cs, e_var, e_bor, e_iou, e_mov, e_frz, frz_some, e_cst, e_glb, e_flat, e_op1, e_op2, e_chn, chn_b, e_and, e_or, e_ife, lst_l, e_tup, e_lst, e_nil, e_cons, e_sub, e_key, e_slc, e_nop, e_rev, e_blt, e_call, it_l, it_t, e_comp, e_val, int_i, e_rng1, e_rng2, zip_l, zip_t, e_zip, e_pop, e_dsp, t_b, t_i, o_neg, o_not, o_add, o_sub, o_mul, o_fdv, o_mod, o_pow, o_lt, o_le, o_gt, o_ge, o_eq, o_ne, o_addL, o_inn, o_nin, o_isn, o_isnn, o_subL, o_subT, o_len, o_lenT, o_tupl, o_list, o_int, o_abs, o_max, o_min, o_gcd, o_sum, o_all, o_any, rb, eqvS, rf_nil, rf_none, rf_some, p_nil, p_none, p_some, a_nm, a_tup, a_nil, a_cons, s_skp, then_nx, then_rt, then_bk, then_ct, s_seq, s_asg, s_fre, s_par, ps_nil, ps_cons, s_exp, s_ret, s_rtn, s_ifs, s_lop, s_brk, s_cnt, s_nvr, s_app, s_set, s_setK, c_lst, ap_lst, si_lst, end_nx, end_rt, oo_nil, oo_0, oo_s, dk_c, dk_m, dk_d, dk_set, dk_can, dk_app, permL, List.filterMap_cons, List.filterMap_nil, List.getElem?_cons_zero, List.getElem?_cons_succ, List.cons_append, List.nil_append, List.append_nil, at0, at1, at2, isi_int, isi_bool, isi_tup, eqvI, Option.some.injEq, exists_eq_left', true_and, and_true, wipeR, Bool.not_true, Bool.not_false, forall_const, List.map_cons, List.map_nil, reduceCtorEq, false_implies, implies_true, true_implies, Bool.true_eq_false, Bool.false_eq_true, eq_self, o_slc, i2_nh]
theorem are_integers_ok (h0 : IsIntOk (G i_is_integer)) : AreIntsOk (runDf G fu d_are_integers) := by
  intro l hl
  unfold TrueOk
  rw [s_run rfl]
  show (exS G fu d_are_integers.body [some (0, .tuple (eI l)), none]).sat (endB [0] _)
  simp only [d_are_integers, s_are_integers_0, sOk, sat_bad, own_c0, own_cs, set_c0, set_cs, getS_c0, getS_cs, e_var, e_bor, e_iou, e_mov, e_frz, frz_some, e_cst, e_glb, e_flat, e_op1, e_op2, e_chn, chn_b, e_and, e_or, e_ife, lst_l, e_tup, e_lst, e_nil, e_cons, e_sub, e_key, e_slc, e_nop, e_rev, e_blt, e_call, it_l, it_t, e_comp, e_val, int_i, e_rng1, e_rng2, zip_l, zip_t, e_zip, e_pop, e_dsp, t_b, t_i, o_neg, o_not, o_add, o_sub, o_mul, o_fdv, o_mod, o_pow, o_lt, o_le, o_gt, o_ge, o_eq, o_ne, o_addL, o_inn, o_nin, o_isn, o_isnn, o_subL, o_subT, o_len, o_lenT, o_tupl, o_list, o_int, o_abs, o_max, o_min, o_gcd, o_sum, o_all, o_any, rb, eqvS, rf_nil, rf_none, rf_some, p_nil, p_none, p_some, a_nm, a_tup, a_nil, a_cons, s_skp, then_nx, then_rt, then_bk, then_ct, s_seq, s_asg, s_fre, s_par, ps_nil, ps_cons, s_exp, s_ret, s_rtn, s_ifs, s_lop, s_brk, s_cnt, s_nvr, s_app, s_set, s_setK, c_lst, ap_lst, si_lst, end_nx, end_rt, oo_nil, oo_0, oo_s, dk_c, dk_m, dk_d, dk_set, dk_can, dk_app, permL, List.filterMap_cons, List.filterMap_nil, List.getElem?_cons_zero, List.getElem?_cons_succ, List.cons_append, List.nil_append, List.append_nil, at0, at1, at2, isi_int, isi_bool, isi_tup, eqvI, Option.some.injEq, exists_eq_left', true_and, and_true, wipeR, Bool.not_true, Bool.not_false, forall_const, List.map_cons, List.map_nil, reduceCtorEq, false_implies, implies_true, true_implies, Bool.true_eq_false, Bool.false_eq_true, eq_self, o_slc, i2_nh]
  refine ⟨⟨rfl, by rw [List.length_map]; exact hl⟩, ?_⟩
  refine cmap (.int) (fun _ => .bool true) l (fun a _ => ?_) ?_
  · simp only [compB_sat, sOk, sat_bad, own_c0, own_cs, set_c0, set_cs, getS_c0, getS_cs, e_var, e_bor, e_iou, e_mov, e_frz, frz_some, e_cst, e_glb, e_flat, e_op1, e_op2, e_chn, chn_b, e_and, e_or, e_ife, lst_l, e_tup, e_lst, e_nil, e_cons, e_sub, e_key, e_slc, e_nop, e_rev, e_blt, e_call, it_l, it_t, e_comp, e_val, int_i, e_rng1, e_rng2, zip_l, zip_t, e_zip, e_pop, e_dsp, t_b, t_i, o_neg, o_not, o_add, o_sub, o_mul, o_fdv, o_mod, o_pow, o_lt, o_le, o_gt, o_ge, o_eq, o_ne, o_addL, o_inn, o_nin, o_isn, o_isnn, o_subL, o_subT, o_len, o_lenT, o_tupl, o_list, o_int, o_abs, o_max, o_min, o_gcd, o_sum, o_all, o_any, rb, eqvS, rf_nil, rf_none, rf_some, p_nil, p_none, p_some, a_nm, a_tup, a_nil, a_cons, s_skp, then_nx, then_rt, then_bk, then_ct, s_seq, s_asg, s_fre, s_par, ps_nil, ps_cons, s_exp, s_ret, s_rtn, s_ifs, s_lop, s_brk, s_cnt, s_nvr, s_app, s_set, s_setK, c_lst, ap_lst, si_lst, end_nx, end_rt, oo_nil, oo_0, oo_s, dk_c, dk_m, dk_d, dk_set, dk_can, dk_app, permL, List.filterMap_cons, List.filterMap_nil, List.getElem?_cons_zero, List.getElem?_cons_succ, List.cons_append, List.nil_append, List.append_nil, at0, at1, at2, isi_int, isi_bool, isi_tup, eqvI, Option.some.injEq, exists_eq_left', true_and, and_true, wipeR, Bool.not_true, Bool.not_false, forall_const, List.map_cons, List.map_nil, reduceCtorEq, false_implies, implies_true, true_implies, Bool.true_eq_false, Bool.false_eq_true, eq_self, o_slc, i2_nh]
    refine sat_imp (h0 a) ?_
    rintro _ rfl
    simp only [sOk, sat_bad, own_c0, own_cs, set_c0, set_cs, getS_c0, getS_cs, e_var, e_bor, e_iou, e_mov, e_frz, frz_some, e_cst, e_glb, e_flat, e_op1, e_op2, e_chn, chn_b, e_and, e_or, e_ife, lst_l, e_tup, e_lst, e_nil, e_cons, e_sub, e_key, e_slc, e_nop, e_rev, e_blt, e_call, it_l, it_t, e_comp, e_val, int_i, e_rng1, e_rng2, zip_l, zip_t, e_zip, e_pop, e_dsp, t_b, t_i, o_neg, o_not, o_add, o_sub, o_mul, o_fdv, o_mod, o_pow, o_lt, o_le, o_gt, o_ge, o_eq, o_ne, o_addL, o_inn, o_nin, o_isn, o_isnn, o_subL, o_subT, o_len, o_lenT, o_tupl, o_list, o_int, o_abs, o_max, o_min, o_gcd, o_sum, o_all, o_any, rb, eqvS, rf_nil, rf_none, rf_some, p_nil, p_none, p_some, a_nm, a_tup, a_nil, a_cons, s_skp, then_nx, then_rt, then_bk, then_ct, s_seq, s_asg, s_fre, s_par, ps_nil, ps_cons, s_exp, s_ret, s_rtn, s_ifs, s_lop, s_brk, s_cnt, s_nvr, s_app, s_set, s_setK, c_lst, ap_lst, si_lst, end_nx, end_rt, oo_nil, oo_0, oo_s, dk_c, dk_m, dk_d, dk_set, dk_can, dk_app, permL, List.filterMap_cons, List.filterMap_nil, List.getElem?_cons_zero, List.getElem?_cons_succ, List.cons_append, List.nil_append, List.append_nil, at0, at1, at2, isi_int, isi_bool, isi_tup, eqvI, Option.some.injEq, exists_eq_left', true_and, and_true, wipeR, Bool.not_true, Bool.not_false, forall_const, List.map_cons, List.map_nil, reduceCtorEq, false_implies, implies_true, true_implies, Bool.true_eq_false, Bool.false_eq_true, eq_self, o_slc, i2_nh]
  · have e : l.map (fun _ => PyData.bool true) = (l.map fun _ => true).map .bool := by rw [List.map_map]; rfl
    show (evBlt Blt.all [PyData.list (l.map fun _ => PyData.bool true)]).sat _
    rw [e, o_all]
    have : (l.map fun _ => true).all id = true := by simp
    rw [this]
theorem cell_row_ok (h : AreIntsOk (G i_are_integers)) : CellRowOk (runDf G fu d_is_cell_row) := by
  intro l h1 h2
  have hL : LIM = 1000000 := rfl
  unfold TrueOk
  rw [s_run rfl]
  show (exS G fu d_is_cell_row.body [some (0, .tuple (eI l))]).sat (endB [0] _)
  simp only [d_is_cell_row, s_is_cell_row_0, sOk, sat_bad, own_c0, own_cs, set_c0, set_cs, getS_c0, getS_cs, e_var, e_bor, e_iou, e_mov, e_frz, frz_some, e_cst, e_glb, e_flat, e_op1, e_op2, e_chn, chn_b, e_and, e_or, e_ife, lst_l, e_tup, e_lst, e_nil, e_cons, e_sub, e_key, e_slc, e_nop, e_rev, e_blt, e_call, it_l, it_t, e_comp, e_val, int_i, e_rng1, e_rng2, zip_l, zip_t, e_zip, e_pop, e_dsp, t_b, t_i, o_neg, o_not, o_add, o_sub, o_mul, o_fdv, o_mod, o_pow, o_lt, o_le, o_gt, o_ge, o_eq, o_ne, o_addL, o_inn, o_nin, o_isn, o_isnn, o_subL, o_subT, o_len, o_lenT, o_tupl, o_list, o_int, o_abs, o_max, o_min, o_gcd, o_sum, o_all, o_any, rb, eqvS, rf_nil, rf_none, rf_some, p_nil, p_none, p_some, a_nm, a_tup, a_nil, a_cons, s_skp, then_nx, then_rt, then_bk, then_ct, s_seq, s_asg, s_fre, s_par, ps_nil, ps_cons, s_exp, s_ret, s_rtn, s_ifs, s_lop, s_brk, s_cnt, s_nvr, s_app, s_set, s_setK, c_lst, ap_lst, si_lst, end_nx, end_rt, oo_nil, oo_0, oo_s, dk_c, dk_m, dk_d, dk_set, dk_can, dk_app, permL, List.filterMap_cons, List.filterMap_nil, List.getElem?_cons_zero, List.getElem?_cons_succ, List.cons_append, List.nil_append, List.append_nil, at0, at1, at2, isi_int, isi_bool, isi_tup, eqvI, Option.some.injEq, exists_eq_left', true_and, and_true, wipeR, Bool.not_true, Bool.not_false, forall_const, List.map_cons, List.map_nil, reduceCtorEq, false_implies, implies_true, true_implies, Bool.true_eq_false, Bool.false_eq_true, eq_self, o_slc, i2_nh]
  refine sat_imp (h l (by omega)) ?_
  rintro _ rfl
  simp only [sOk, sat_bad, own_c0, own_cs, set_c0, set_cs, getS_c0, getS_cs, e_var, e_bor, e_iou, e_mov, e_frz, frz_some, e_cst, e_glb, e_flat, e_op1, e_op2, e_chn, chn_b, e_and, e_or, e_ife, lst_l, e_tup, e_lst, e_nil, e_cons, e_sub, e_key, e_slc, e_nop, e_rev, e_blt, e_call, it_l, it_t, e_comp, e_val, int_i, e_rng1, e_rng2, zip_l, zip_t, e_zip, e_pop, e_dsp, t_b, t_i, o_neg, o_not, o_add, o_sub, o_mul, o_fdv, o_mod, o_pow, o_lt, o_le, o_gt, o_ge, o_eq, o_ne, o_addL, o_inn, o_nin, o_isn, o_isnn, o_subL, o_subT, o_len, o_lenT, o_tupl, o_list, o_int, o_abs, o_max, o_min, o_gcd, o_sum, o_all, o_any, rb, eqvS, rf_nil, rf_none, rf_some, p_nil, p_none, p_some, a_nm, a_tup, a_nil, a_cons, s_skp, then_nx, then_rt, then_bk, then_ct, s_seq, s_asg, s_fre, s_par, ps_nil, ps_cons, s_exp, s_ret, s_rtn, s_ifs, s_lop, s_brk, s_cnt, s_nvr, s_app, s_set, s_setK, c_lst, ap_lst, si_lst, end_nx, end_rt, oo_nil, oo_0, oo_s, dk_c, dk_m, dk_d, dk_set, dk_can, dk_app, permL, List.filterMap_cons, List.filterMap_nil, List.getElem?_cons_zero, List.getElem?_cons_succ, List.cons_append, List.nil_append, List.append_nil, at0, at1, at2, isi_int, isi_bool, isi_tup, eqvI, Option.some.injEq, exists_eq_left', true_and, and_true, wipeR, Bool.not_true, Bool.not_false, forall_const, List.map_cons, List.map_nil, reduceCtorEq, false_implies, implies_true, true_implies, Bool.true_eq_false, Bool.false_eq_true, eq_self, o_slc, i2_nh, List.length_map]
  refine ⟨fun _ => ?_, fun hc => absurd (by omega) hc⟩
  rw [decide_eq_true (by omega)]
theorem cell_of_ok (h : CellRowOk (G i_is_cell_row)) : CellOfOk (runDf G fu d_is_cell_of) := by
  intro l n h1 h2 hn
  subst hn
  unfold TrueOk
  rw [s_run rfl]
  show (exS G fu d_is_cell_of.body [some (0, .tuple (eI l)), some (0, .int l.length)]).sat (endB [0, 0] _)
  simp only [d_is_cell_of, s_is_cell_of_0, sOk, sat_bad, own_c0, own_cs, set_c0, set_cs, getS_c0, getS_cs, e_var, e_bor, e_iou, e_mov, e_frz, frz_some, e_cst, e_glb, e_flat, e_op1, e_op2, e_chn, chn_b, e_and, e_or, e_ife, lst_l, e_tup, e_lst, e_nil, e_cons, e_sub, e_key, e_slc, e_nop, e_rev, e_blt, e_call, it_l, it_t, e_comp, e_val, int_i, e_rng1, e_rng2, zip_l, zip_t, e_zip, e_pop, e_dsp, t_b, t_i, o_neg, o_not, o_add, o_sub, o_mul, o_fdv, o_mod, o_pow, o_lt, o_le, o_gt, o_ge, o_eq, o_ne, o_addL, o_inn, o_nin, o_isn, o_isnn, o_subL, o_subT, o_len, o_lenT, o_tupl, o_list, o_int, o_abs, o_max, o_min, o_gcd, o_sum, o_all, o_any, rb, eqvS, rf_nil, rf_none, rf_some, p_nil, p_none, p_some, a_nm, a_tup, a_nil, a_cons, s_skp, then_nx, then_rt, then_bk, then_ct, s_seq, s_asg, s_fre, s_par, ps_nil, ps_cons, s_exp, s_ret, s_rtn, s_ifs, s_lop, s_brk, s_cnt, s_nvr, s_app, s_set, s_setK, c_lst, ap_lst, si_lst, end_nx, end_rt, oo_nil, oo_0, oo_s, dk_c, dk_m, dk_d, dk_set, dk_can, dk_app, permL, List.filterMap_cons, List.filterMap_nil, List.getElem?_cons_zero, List.getElem?_cons_succ, List.cons_append, List.nil_append, List.append_nil, at0, at1, at2, isi_int, isi_bool, isi_tup, eqvI, Option.some.injEq, exists_eq_left', true_and, and_true, wipeR, Bool.not_true, Bool.not_false, forall_const, List.map_cons, List.map_nil, reduceCtorEq, false_implies, implies_true, true_implies, Bool.true_eq_false, Bool.false_eq_true, eq_self, o_slc, i2_nh]
  refine sat_imp (h l h1 h2) ?_
  rintro _ rfl
  simp only [sOk, sat_bad, own_c0, own_cs, set_c0, set_cs, getS_c0, getS_cs, e_var, e_bor, e_iou, e_mov, e_frz, frz_some, e_cst, e_glb, e_flat, e_op1, e_op2, e_chn, chn_b, e_and, e_or, e_ife, lst_l, e_tup, e_lst, e_nil, e_cons, e_sub, e_key, e_slc, e_nop, e_rev, e_blt, e_call, it_l, it_t, e_comp, e_val, int_i, e_rng1, e_rng2, zip_l, zip_t, e_zip, e_pop, e_dsp, t_b, t_i, o_neg, o_not, o_add, o_sub, o_mul, o_fdv, o_mod, o_pow, o_lt, o_le, o_gt, o_ge, o_eq, o_ne, o_addL, o_inn, o_nin, o_isn, o_isnn, o_subL, o_subT, o_len, o_lenT, o_tupl, o_list, o_int, o_abs, o_max, o_min, o_gcd, o_sum, o_all, o_any, rb, eqvS, rf_nil, rf_none, rf_some, p_nil, p_none, p_some, a_nm, a_tup, a_nil, a_cons, s_skp, then_nx, then_rt, then_bk, then_ct, s_seq, s_asg, s_fre, s_par, ps_nil, ps_cons, s_exp, s_ret, s_rtn, s_ifs, s_lop, s_brk, s_cnt, s_nvr, s_app, s_set, s_setK, c_lst, ap_lst, si_lst, end_nx, end_rt, oo_nil, oo_0, oo_s, dk_c, dk_m, dk_d, dk_set, dk_can, dk_app, permL, List.filterMap_cons, List.filterMap_nil, List.getElem?_cons_zero, List.getElem?_cons_succ, List.cons_append, List.nil_append, List.append_nil, at0, at1, at2, isi_int, isi_bool, isi_tup, eqvI, Option.some.injEq, exists_eq_left', true_and, and_true, wipeR, Bool.not_true, Bool.not_false, forall_const, List.map_cons, List.map_nil, reduceCtorEq, false_implies, implies_true, true_implies, Bool.true_eq_false, Bool.false_eq_true, eq_self, o_slc, i2_nh, List.length_map, decide_true]
  exact ⟨rfl, rfl⟩
theorem prod_at_ok : ProdAtOk (runDf G fu d_product_at) := by
  intro c x hl hc hx
  rw [s_run rfl]
  show (exS G fu d_product_at.body [some (0, .tuple (eI c)), some (0, .tuple (eI x)), none, none]).sat (endB [0, 0] _)
  simp only [d_product_at, s_product_at_0, sOk, sat_bad, own_c0, own_cs, set_c0, set_cs, getS_c0, getS_cs, e_var, e_bor, e_iou, e_mov, e_frz, frz_some, e_cst, e_glb, e_flat, e_op1, e_op2, e_chn, chn_b, e_and, e_or, e_ife, lst_l, e_tup, e_lst, e_nil, e_cons, e_sub, e_key, e_slc, e_nop, e_rev, e_blt, e_call, it_l, it_t, e_comp, e_val, int_i, e_rng1, e_rng2, zip_l, zip_t, e_zip, e_pop, e_dsp, t_b, t_i, o_neg, o_not, o_add, o_sub, o_mul, o_fdv, o_mod, o_pow, o_lt, o_le, o_gt, o_ge, o_eq, o_ne, o_addL, o_inn, o_nin, o_isn, o_isnn, o_subL, o_subT, o_len, o_lenT, o_tupl, o_list, o_int, o_abs, o_max, o_min, o_gcd, o_sum, o_all, o_any, rb, eqvS, rf_nil, rf_none, rf_some, p_nil, p_none, p_some, a_nm, a_tup, a_nil, a_cons, s_skp, then_nx, then_rt, then_bk, then_ct, s_seq, s_asg, s_fre, s_par, ps_nil, ps_cons, s_exp, s_ret, s_rtn, s_ifs, s_lop, s_brk, s_cnt, s_nvr, s_app, s_set, s_setK, c_lst, ap_lst, si_lst, end_nx, end_rt, oo_nil, oo_0, oo_s, dk_c, dk_m, dk_d, dk_set, dk_can, dk_app, permL, List.filterMap_cons, List.filterMap_nil, List.getElem?_cons_zero, List.getElem?_cons_succ, List.cons_append, List.nil_append, List.append_nil, at0, at1, at2, isi_int, isi_bool, isi_tup, eqvI, Option.some.injEq, exists_eq_left', true_and, and_true, wipeR, Bool.not_true, Bool.not_false, forall_const, List.map_cons, List.map_nil, reduceCtorEq, false_implies, implies_true, true_implies, Bool.true_eq_false, Bool.false_eq_true, eq_self, o_slc, i2_nh, zip_eI]
  refine ⟨⟨rfl, ?_⟩, ?_⟩
  · rw [List.length_map, List.length_zip]
    omega
  · refine cmap (fun p : Int × Int => .tuple [.int p.1, .int p.2]) (fun p => .int (p.1 * p.2)) (c.zip x) (fun p hp => ?_) ?_
    · obtain ⟨m1, m2⟩ := zip_mem hp
      simp only [compB_sat, sOk, sat_bad, own_c0, own_cs, set_c0, set_cs, getS_c0, getS_cs, e_var, e_bor, e_iou, e_mov, e_frz, frz_some, e_cst, e_glb, e_flat, e_op1, e_op2, e_chn, chn_b, e_and, e_or, e_ife, lst_l, e_tup, e_lst, e_nil, e_cons, e_sub, e_key, e_slc, e_nop, e_rev, e_blt, e_call, it_l, it_t, e_comp, e_val, int_i, e_rng1, e_rng2, zip_l, zip_t, e_zip, e_pop, e_dsp, t_b, t_i, o_neg, o_not, o_add, o_sub, o_mul, o_fdv, o_mod, o_pow, o_lt, o_le, o_gt, o_ge, o_eq, o_ne, o_addL, o_inn, o_nin, o_isn, o_isnn, o_subL, o_subT, o_len, o_lenT, o_tupl, o_list, o_int, o_abs, o_max, o_min, o_gcd, o_sum, o_all, o_any, rb, eqvS, rf_nil, rf_none, rf_some, p_nil, p_none, p_some, a_nm, a_tup, a_nil, a_cons, s_skp, then_nx, then_rt, then_bk, then_ct, s_seq, s_asg, s_fre, s_par, ps_nil, ps_cons, s_exp, s_ret, s_rtn, s_ifs, s_lop, s_brk, s_cnt, s_nvr, s_app, s_set, s_setK, c_lst, ap_lst, si_lst, end_nx, end_rt, oo_nil, oo_0, oo_s, dk_c, dk_m, dk_d, dk_set, dk_can, dk_app, permL, List.filterMap_cons, List.filterMap_nil, List.getElem?_cons_zero, List.getElem?_cons_succ, List.cons_append, List.nil_append, List.append_nil, at0, at1, at2, isi_int, isi_bool, isi_tup, eqvI, Option.some.injEq, exists_eq_left', true_and, and_true, wipeR, Bool.not_true, Bool.not_false, forall_const, List.map_cons, List.map_nil, reduceCtorEq, false_implies, implies_true, true_implies, Bool.true_eq_false, Bool.false_eq_true, eq_self, o_slc, i2_nh]
      exact mulX (hc _ m1) (hx _ m2)
    · rw [zipW]
      simp only [sOk, sat_bad, own_c0, own_cs, set_c0, set_cs, getS_c0, getS_cs, e_var, e_bor, e_iou, e_mov, e_frz, frz_some, e_cst, e_glb, e_flat, e_op1, e_op2, e_chn, chn_b, e_and, e_or, e_ife, lst_l, e_tup, e_lst, e_nil, e_cons, e_sub, e_key, e_slc, e_nop, e_rev, e_blt, e_call, it_l, it_t, e_comp, e_val, int_i, e_rng1, e_rng2, zip_l, zip_t, e_zip, e_pop, e_dsp, t_b, t_i, o_neg, o_not, o_add, o_sub, o_mul, o_fdv, o_mod, o_pow, o_lt, o_le, o_gt, o_ge, o_eq, o_ne, o_addL, o_inn, o_nin, o_isn, o_isnn, o_subL, o_subT, o_len, o_lenT, o_tupl, o_list, o_int, o_abs, o_max, o_min, o_gcd, o_sum, o_all, o_any, rb, eqvS, rf_nil, rf_none, rf_some, p_nil, p_none, p_some, a_nm, a_tup, a_nil, a_cons, s_skp, then_nx, then_rt, then_bk, then_ct, s_seq, s_asg, s_fre, s_par, ps_nil, ps_cons, s_exp, s_ret, s_rtn, s_ifs, s_lop, s_brk, s_cnt, s_nvr, s_app, s_set, s_setK, c_lst, ap_lst, si_lst, end_nx, end_rt, oo_nil, oo_0, oo_s, dk_c, dk_m, dk_d, dk_set, dk_can, dk_app, permL, List.filterMap_cons, List.filterMap_nil, List.getElem?_cons_zero, List.getElem?_cons_succ, List.cons_append, List.nil_append, List.append_nil, at0, at1, at2, isi_int, isi_bool, isi_tup, eqvI, Option.some.injEq, exists_eq_left', true_and, and_true, wipeR, Bool.not_true, Bool.not_false, forall_const, List.map_cons, List.map_nil, reduceCtorEq, false_implies, implies_true, true_implies, Bool.true_eq_false, Bool.false_eq_true, eq_self, o_slc, i2_nh]
      rfl
theorem gcd_fold : ∀ (c : List Int) (a : Nat), ∃ g : Nat, g ∣ a ∧ (∀ x ∈ c, (g : Int) ∣ x) ∧ c.foldl (fun (a : Int) (x : Int) => ((Nat.gcd a.natAbs x.natAbs : Nat) : Int)) (a : Int) = (g : Int)
  | [], a => ⟨a, Nat.dvd_refl a, (fun _ h => nomatch h), rfl⟩
  | x :: c, a => by
    obtain ⟨g, h1, h2, h3⟩ := gcd_fold c (Nat.gcd a x.natAbs)
    refine ⟨g, Nat.dvd_trans h1 (Nat.gcd_dvd_left _ _), fun y hy => ?_, h3⟩
    rcases List.mem_cons.mp hy with rfl | hy
    · rw [← Int.natAbs_dvd_natAbs, Int.natAbs_natCast]
      exact Nat.dvd_trans h1 (Nat.gcd_dvd_right _ _)
    · exact h2 y hy
theorem class_ok (h : CellRowOk (G i_is_cell_row)) : ClassOk (runDf G fu d_is_class_row) := by
  intro L c P v
  have hL : LIM = 1000000 := rfl
  unfold TrueOk
  rw [s_run rfl]
  show (exS G fu d_is_class_row.body [some (0, .int (per L)), some (0, .tuple (eI c)), none, none]).sat (endB [0, 0] _)
  simp only [d_is_class_row, s_is_class_row_0, sOk, sat_bad, own_c0, own_cs, set_c0, set_cs, getS_c0, getS_cs, e_var, e_bor, e_iou, e_mov, e_frz, frz_some, e_cst, e_glb, e_flat, e_op1, e_op2, e_chn, chn_b, e_and, e_or, e_ife, lst_l, e_tup, e_lst, e_nil, e_cons, e_sub, e_key, e_slc, e_nop, e_rev, e_blt, e_call, it_l, it_t, e_comp, e_val, int_i, e_rng1, e_rng2, zip_l, zip_t, e_zip, e_pop, e_dsp, t_b, t_i, o_neg, o_not, o_add, o_sub, o_mul, o_fdv, o_mod, o_pow, o_lt, o_le, o_gt, o_ge, o_eq, o_ne, o_addL, o_inn, o_nin, o_isn, o_isnn, o_subL, o_subT, o_len, o_lenT, o_tupl, o_list, o_int, o_abs, o_max, o_min, o_gcd, o_sum, o_all, o_any, rb, eqvS, rf_nil, rf_none, rf_some, p_nil, p_none, p_some, a_nm, a_tup, a_nil, a_cons, s_skp, then_nx, then_rt, then_bk, then_ct, s_seq, s_asg, s_fre, s_par, ps_nil, ps_cons, s_exp, s_ret, s_rtn, s_ifs, s_lop, s_brk, s_cnt, s_nvr, s_app, s_set, s_setK, c_lst, ap_lst, si_lst, end_nx, end_rt, oo_nil, oo_0, oo_s, dk_c, dk_m, dk_d, dk_set, dk_can, dk_app, permL, List.filterMap_cons, List.filterMap_nil, List.getElem?_cons_zero, List.getElem?_cons_succ, List.cons_append, List.nil_append, List.append_nil, at0, at1, at2, isi_int, isi_bool, isi_tup, eqvI, Option.some.injEq, exists_eq_left', true_and, and_true, wipeR, Bool.not_true, Bool.not_false, forall_const, List.map_cons, List.map_nil, reduceCtorEq, false_implies, implies_true, true_implies, Bool.true_eq_false, Bool.false_eq_true, eq_self, o_slc, i2_nh]
  refine sat_imp (h c v.len.1 v.len.2) ?_
  rintro _ rfl
  simp only [sOk, sat_bad, own_c0, own_cs, set_c0, set_cs, getS_c0, getS_cs, e_var, e_bor, e_iou, e_mov, e_frz, frz_some, e_cst, e_glb, e_flat, e_op1, e_op2, e_chn, chn_b, e_and, e_or, e_ife, lst_l, e_tup, e_lst, e_nil, e_cons, e_sub, e_key, e_slc, e_nop, e_rev, e_blt, e_call, it_l, it_t, e_comp, e_val, int_i, e_rng1, e_rng2, zip_l, zip_t, e_zip, e_pop, e_dsp, t_b, t_i, o_neg, o_not, o_add, o_sub, o_mul, o_fdv, o_mod, o_pow, o_lt, o_le, o_gt, o_ge, o_eq, o_ne, o_addL, o_inn, o_nin, o_isn, o_isnn, o_subL, o_subT, o_len, o_lenT, o_tupl, o_list, o_int, o_abs, o_max, o_min, o_gcd, o_sum, o_all, o_any, rb, eqvS, rf_nil, rf_none, rf_some, p_nil, p_none, p_some, a_nm, a_tup, a_nil, a_cons, s_skp, then_nx, then_rt, then_bk, then_ct, s_seq, s_asg, s_fre, s_par, ps_nil, ps_cons, s_exp, s_ret, s_rtn, s_ifs, s_lop, s_brk, s_cnt, s_nvr, s_app, s_set, s_setK, c_lst, ap_lst, si_lst, end_nx, end_rt, oo_nil, oo_0, oo_s, dk_c, dk_m, dk_d, dk_set, dk_can, dk_app, permL, List.filterMap_cons, List.filterMap_nil, List.getElem?_cons_zero, List.getElem?_cons_succ, List.cons_append, List.nil_append, List.append_nil, at0, at1, at2, isi_int, isi_bool, isi_tup, eqvI, Option.some.injEq, exists_eq_left', true_and, and_true, wipeR, Bool.not_true, Bool.not_false, forall_const, List.map_cons, List.map_nil, reduceCtorEq, false_implies, implies_true, true_implies, Bool.true_eq_false, Bool.false_eq_true, eq_self, o_slc, i2_nh]
  refine ⟨⟨rfl, by rw [List.length_map]; have := v.len.2; omega⟩, ?_⟩
  refine cmap (.int) (fun _ => .bool true) c (fun a ha => ?_) ?_
  · obtain ⟨a0, a1⟩ := v.rng a ha
    simp only [compB_sat, sOk, sat_bad, own_c0, own_cs, set_c0, set_cs, getS_c0, getS_cs, e_var, e_bor, e_iou, e_mov, e_frz, frz_some, e_cst, e_glb, e_flat, e_op1, e_op2, e_chn, chn_b, e_and, e_or, e_ife, lst_l, e_tup, e_lst, e_nil, e_cons, e_sub, e_key, e_slc, e_nop, e_rev, e_blt, e_call, it_l, it_t, e_comp, e_val, int_i, e_rng1, e_rng2, zip_l, zip_t, e_zip, e_pop, e_dsp, t_b, t_i, o_neg, o_not, o_add, o_sub, o_mul, o_fdv, o_mod, o_pow, o_lt, o_le, o_gt, o_ge, o_eq, o_ne, o_addL, o_inn, o_nin, o_isn, o_isnn, o_subL, o_subT, o_len, o_lenT, o_tupl, o_list, o_int, o_abs, o_max, o_min, o_gcd, o_sum, o_all, o_any, rb, eqvS, rf_nil, rf_none, rf_some, p_nil, p_none, p_some, a_nm, a_tup, a_nil, a_cons, s_skp, then_nx, then_rt, then_bk, then_ct, s_seq, s_asg, s_fre, s_par, ps_nil, ps_cons, s_exp, s_ret, s_rtn, s_ifs, s_lop, s_brk, s_cnt, s_nvr, s_app, s_set, s_setK, c_lst, ap_lst, si_lst, end_nx, end_rt, oo_nil, oo_0, oo_s, dk_c, dk_m, dk_d, dk_set, dk_can, dk_app, permL, List.filterMap_cons, List.filterMap_nil, List.getElem?_cons_zero, List.getElem?_cons_succ, List.cons_append, List.nil_append, List.append_nil, at0, at1, at2, isi_int, isi_bool, isi_tup, eqvI, Option.some.injEq, exists_eq_left', true_and, and_true, wipeR, Bool.not_true, Bool.not_false, forall_const, List.map_cons, List.map_nil, reduceCtorEq, false_implies, implies_true, true_implies, Bool.true_eq_false, Bool.false_eq_true, eq_self, o_slc, i2_nh]
    refine ⟨fun _ => ?_, fun hc => absurd a0 hc⟩
    rw [decide_eq_true a1]
  · have e : c.map (fun _ => PyData.bool true) = (c.map fun _ => true).map .bool := by rw [List.map_map]; rfl
    show (evBlt Blt.all [PyData.list (c.map fun _ => PyData.bool true)]).sat _
    rw [e, o_all]
    have : (c.map fun _ => true).all id = true := by simp
    rw [this]
    simp only [sOk, sat_bad, own_c0, own_cs, set_c0, set_cs, getS_c0, getS_cs, e_var, e_bor, e_iou, e_mov, e_frz, frz_some, e_cst, e_glb, e_flat, e_op1, e_op2, e_chn, chn_b, e_and, e_or, e_ife, lst_l, e_tup, e_lst, e_nil, e_cons, e_sub, e_key, e_slc, e_nop, e_rev, e_blt, e_call, it_l, it_t, e_comp, e_val, int_i, e_rng1, e_rng2, zip_l, zip_t, e_zip, e_pop, e_dsp, t_b, t_i, o_neg, o_not, o_add, o_sub, o_mul, o_fdv, o_mod, o_pow, o_lt, o_le, o_gt, o_ge, o_eq, o_ne, o_addL, o_inn, o_nin, o_isn, o_isnn, o_subL, o_subT, o_len, o_lenT, o_tupl, o_list, o_int, o_abs, o_max, o_min, o_gcd, o_sum, o_all, o_any, rb, eqvS, rf_nil, rf_none, rf_some, p_nil, p_none, p_some, a_nm, a_tup, a_nil, a_cons, s_skp, then_nx, then_rt, then_bk, then_ct, s_seq, s_asg, s_fre, s_par, ps_nil, ps_cons, s_exp, s_ret, s_rtn, s_ifs, s_lop, s_brk, s_cnt, s_nvr, s_app, s_set, s_setK, c_lst, ap_lst, si_lst, end_nx, end_rt, oo_nil, oo_0, oo_s, dk_c, dk_m, dk_d, dk_set, dk_can, dk_app, permL, List.filterMap_cons, List.filterMap_nil, List.getElem?_cons_zero, List.getElem?_cons_succ, List.cons_append, List.nil_append, List.append_nil, at0, at1, at2, isi_int, isi_bool, isi_tup, eqvI, Option.some.injEq, exists_eq_left', true_and, and_true, wipeR, Bool.not_true, Bool.not_false, forall_const, List.map_cons, List.map_nil, reduceCtorEq, false_implies, implies_true, true_implies, Bool.true_eq_false, Bool.false_eq_true, eq_self, o_slc, i2_nh]
    simp only [s_is_class_row_1, sOk, sat_bad, own_c0, own_cs, set_c0, set_cs, getS_c0, getS_cs, e_var, e_bor, e_iou, e_mov, e_frz, frz_some, e_cst, e_glb, e_flat, e_op1, e_op2, e_chn, chn_b, e_and, e_or, e_ife, lst_l, e_tup, e_lst, e_nil, e_cons, e_sub, e_key, e_slc, e_nop, e_rev, e_blt, e_call, it_l, it_t, e_comp, e_val, int_i, e_rng1, e_rng2, zip_l, zip_t, e_zip, e_pop, e_dsp, t_b, t_i, o_neg, o_not, o_add, o_sub, o_mul, o_fdv, o_mod, o_pow, o_lt, o_le, o_gt, o_ge, o_eq, o_ne, o_addL, o_inn, o_nin, o_isn, o_isnn, o_subL, o_subT, o_len, o_lenT, o_tupl, o_list, o_int, o_abs, o_max, o_min, o_gcd, o_sum, o_all, o_any, rb, eqvS, rf_nil, rf_none, rf_some, p_nil, p_none, p_some, a_nm, a_tup, a_nil, a_cons, s_skp, then_nx, then_rt, then_bk, then_ct, s_seq, s_asg, s_fre, s_par, ps_nil, ps_cons, s_exp, s_ret, s_rtn, s_ifs, s_lop, s_brk, s_cnt, s_nvr, s_app, s_set, s_setK, c_lst, ap_lst, si_lst, end_nx, end_rt, oo_nil, oo_0, oo_s, dk_c, dk_m, dk_d, dk_set, dk_can, dk_app, permL, List.filterMap_cons, List.filterMap_nil, List.getElem?_cons_zero, List.getElem?_cons_succ, List.cons_append, List.nil_append, List.append_nil, at0, at1, at2, isi_int, isi_bool, isi_tup, eqvI, Option.some.injEq, exists_eq_left', true_and, and_true, wipeR, Bool.not_true, Bool.not_false, forall_const, List.map_cons, List.map_nil, reduceCtorEq, false_implies, implies_true, true_implies, Bool.true_eq_false, Bool.false_eq_true, eq_self, o_slc, i2_nh]
    simp only [s_is_class_row_2, sOk, sat_bad, own_c0, own_cs, set_c0, set_cs, getS_c0, getS_cs, e_var, e_bor, e_iou, e_mov, e_frz, frz_some, e_cst, e_glb, e_flat, e_op1, e_op2, e_chn, chn_b, e_and, e_or, e_ife, lst_l, e_tup, e_lst, e_nil, e_cons, e_sub, e_key, e_slc, e_nop, e_rev, e_blt, e_call, it_l, it_t, e_comp, e_val, int_i, e_rng1, e_rng2, zip_l, zip_t, e_zip, e_pop, e_dsp, t_b, t_i, o_neg, o_not, o_add, o_sub, o_mul, o_fdv, o_mod, o_pow, o_lt, o_le, o_gt, o_ge, o_eq, o_ne, o_addL, o_inn, o_nin, o_isn, o_isnn, o_subL, o_subT, o_len, o_lenT, o_tupl, o_list, o_int, o_abs, o_max, o_min, o_gcd, o_sum, o_all, o_any, rb, eqvS, rf_nil, rf_none, rf_some, p_nil, p_none, p_some, a_nm, a_tup, a_nil, a_cons, s_skp, then_nx, then_rt, then_bk, then_ct, s_seq, s_asg, s_fre, s_par, ps_nil, ps_cons, s_exp, s_ret, s_rtn, s_ifs, s_lop, s_brk, s_cnt, s_nvr, s_app, s_set, s_setK, c_lst, ap_lst, si_lst, end_nx, end_rt, oo_nil, oo_0, oo_s, dk_c, dk_m, dk_d, dk_set, dk_can, dk_app, permL, List.filterMap_cons, List.filterMap_nil, List.getElem?_cons_zero, List.getElem?_cons_succ, List.cons_append, List.nil_append, List.append_nil, at0, at1, at2, isi_int, isi_bool, isi_tup, eqvI, Option.some.injEq, exists_eq_left', true_and, and_true, wipeR, Bool.not_true, Bool.not_false, forall_const, List.map_cons, List.map_nil, reduceCtorEq, false_implies, implies_true, true_implies, Bool.true_eq_false, Bool.false_eq_true, eq_self, o_slc, i2_nh]
    have key : ∀ (l : List Int) (a : Int) (s : Slot) (Q : Fl × Rho → Prop), (∀ s', Q (.nx, [some (0, .int (per L)), some (0, .tuple (eI c)), some (0, .int (l.foldl (fun (a : Int) (x : Int) => ((Nat.gcd a.natAbs x.natAbs : Nat) : Int)) a)), s'])) →
        (loopL (loopB G fu (.nm 3) b_is_class_row_2b) (eI l) [some (0, .int (per L)), some (0, .tuple (eI c)), some (0, .int a), s]).sat Q := by
      intro l
      induction l with
      | nil => intro a s Q h; exact h s
      | cons x l ih =>
        intro a s Q h
        simp only [eI, List.map_cons, loopL, Out.sat_bind, loopB_sat, b_is_class_row_2b, s_is_class_row_2b_0, sOk, sat_bad, own_c0, own_cs, set_c0, set_cs, getS_c0, getS_cs, e_var, e_bor, e_iou, e_mov, e_frz, frz_some, e_cst, e_glb, e_flat, e_op1, e_op2, e_chn, chn_b, e_and, e_or, e_ife, lst_l, e_tup, e_lst, e_nil, e_cons, e_sub, e_key, e_slc, e_nop, e_rev, e_blt, e_call, it_l, it_t, e_comp, e_val, int_i, e_rng1, e_rng2, zip_l, zip_t, e_zip, e_pop, e_dsp, t_b, t_i, o_neg, o_not, o_add, o_sub, o_mul, o_fdv, o_mod, o_pow, o_lt, o_le, o_gt, o_ge, o_eq, o_ne, o_addL, o_inn, o_nin, o_isn, o_isnn, o_subL, o_subT, o_len, o_lenT, o_tupl, o_list, o_int, o_abs, o_max, o_min, o_gcd, o_sum, o_all, o_any, rb, eqvS, rf_nil, rf_none, rf_some, p_nil, p_none, p_some, a_nm, a_tup, a_nil, a_cons, s_skp, then_nx, then_rt, then_bk, then_ct, s_seq, s_asg, s_fre, s_par, ps_nil, ps_cons, s_exp, s_ret, s_rtn, s_ifs, s_lop, s_brk, s_cnt, s_nvr, s_app, s_set, s_setK, c_lst, ap_lst, si_lst, end_nx, end_rt, oo_nil, oo_0, oo_s, dk_c, dk_m, dk_d, dk_set, dk_can, dk_app, permL, List.filterMap_cons, List.filterMap_nil, List.getElem?_cons_zero, List.getElem?_cons_succ, List.cons_append, List.nil_append, List.append_nil, at0, at1, at2, isi_int, isi_bool, isi_tup, eqvI, Option.some.injEq, exists_eq_left', true_and, and_true, wipeR, Bool.not_true, Bool.not_false, forall_const, List.map_cons, List.map_nil, reduceCtorEq, false_implies, implies_true, true_implies, Bool.true_eq_false, Bool.false_eq_true, eq_self, o_slc, i2_nh]
        exact ih _ _ Q h
    refine key c (per L) none _ fun s' => ?_
    obtain ⟨g, h1, h2, h3⟩ := gcd_fold c (per L)
    simp only [s_is_class_row_3, sOk, sat_bad, own_c0, own_cs, set_c0, set_cs, getS_c0, getS_cs, e_var, e_bor, e_iou, e_mov, e_frz, frz_some, e_cst, e_glb, e_flat, e_op1, e_op2, e_chn, chn_b, e_and, e_or, e_ife, lst_l, e_tup, e_lst, e_nil, e_cons, e_sub, e_key, e_slc, e_nop, e_rev, e_blt, e_call, it_l, it_t, e_comp, e_val, int_i, e_rng1, e_rng2, zip_l, zip_t, e_zip, e_pop, e_dsp, t_b, t_i, o_neg, o_not, o_add, o_sub, o_mul, o_fdv, o_mod, o_pow, o_lt, o_le, o_gt, o_ge, o_eq, o_ne, o_addL, o_inn, o_nin, o_isn, o_isnn, o_subL, o_subT, o_len, o_lenT, o_tupl, o_list, o_int, o_abs, o_max, o_min, o_gcd, o_sum, o_all, o_any, rb, eqvS, rf_nil, rf_none, rf_some, p_nil, p_none, p_some, a_nm, a_tup, a_nil, a_cons, s_skp, then_nx, then_rt, then_bk, then_ct, s_seq, s_asg, s_fre, s_par, ps_nil, ps_cons, s_exp, s_ret, s_rtn, s_ifs, s_lop, s_brk, s_cnt, s_nvr, s_app, s_set, s_setK, c_lst, ap_lst, si_lst, end_nx, end_rt, oo_nil, oo_0, oo_s, dk_c, dk_m, dk_d, dk_set, dk_can, dk_app, permL, List.filterMap_cons, List.filterMap_nil, List.getElem?_cons_zero, List.getElem?_cons_succ, List.cons_append, List.nil_append, List.append_nil, at0, at1, at2, isi_int, isi_bool, isi_tup, eqvI, Option.some.injEq, exists_eq_left', true_and, and_true, wipeR, Bool.not_true, Bool.not_false, forall_const, List.map_cons, List.map_nil, reduceCtorEq, false_implies, implies_true, true_implies, Bool.true_eq_false, Bool.false_eq_true, eq_self, o_slc, i2_nh, h3]
    have g1 : g = 1 := P.one h1 fun y hy d => by
      obtain ⟨x, hx, nd⟩ := v.cop y hy
      exact nd (Int.dvd_trans (Int.natCast_dvd_natCast.mpr d) (h2 x hx))
    subst g1
    exact ⟨⟨rfl, rfl⟩, rfl⟩
end
end K03

set_option Elab.async false
set_option linter.all false
set_option maxRecDepth 100000
set_option maxHeartbeats 1000000
set_option exponentiation.threshold 10000
namespace K03
open PySem Mini Mini.W
section
variable {G : Defs} {fu : Nat}
theorem shS {b : Bool} : SeqAt.shaped (.str (PyData.shown (.tuple [.bool b, .bool b]))) = true := by
  cases b <;> decide +kernel
theorem modN {a b : Nat} : ((a : Int) % (b : Int) = 0) ↔ b ∣ a := by
  rw [← Int.dvd_iff_emod_eq_zero, Int.natCast_dvd_natCast]
theorem period_ok (hfu : 10 ^ 300 ≤ fu) (h : IsIntOk (G i_is_integer)) : PeriodOk (runDf G fu d_is_period_number) := by
  intro L P
  have hpos := P.pos
  have htop : per L < 10 ^ 40 := P.top
  unfold TrueOk
  rw [s_run rfl]
  show (exS G fu d_is_period_number.body [some (0, .int (per L)), none, none, none]).sat (endB [0] _)
  simp only [d_is_period_number, s_is_period_number_0, sOk, sat_bad, own_c0, own_cs, set_c0, set_cs, getS_c0, getS_cs, e_var, e_bor, e_iou, e_mov, e_frz, frz_some, e_cst, e_glb, e_flat, e_op1, e_op2, e_chn, chn_b, e_and, e_or, e_ife, lst_l, e_tup, e_lst, e_nil, e_cons, e_sub, e_key, e_slc, e_nop, e_rev, e_blt, e_call, it_l, it_t, e_comp, e_val, int_i, e_rng1, e_rng2, zip_l, zip_t, e_zip, e_pop, e_dsp, t_b, t_i, o_neg, o_not, o_add, o_sub, o_mul, o_fdv, o_mod, o_pow, o_lt, o_le, o_gt, o_ge, o_eq, o_ne, o_addL, o_inn, o_nin, o_isn, o_isnn, o_subL, o_subT, o_len, o_lenT, o_tupl, o_list, o_int, o_abs, o_max, o_min, o_gcd, o_sum, o_all, o_any, rb, eqvS, rf_nil, rf_none, rf_some, p_nil, p_none, p_some, a_nm, a_tup, a_nil, a_cons, s_skp, then_nx, then_rt, then_bk, then_ct, s_seq, s_asg, s_fre, s_par, ps_nil, ps_cons, s_exp, s_ret, s_rtn, s_ifs, s_lop, s_brk, s_cnt, s_nvr, s_app, s_set, s_setK, c_lst, ap_lst, si_lst, end_nx, end_rt, oo_nil, oo_0, oo_s, dk_c, dk_m, dk_d, dk_set, dk_can, dk_app, permL, List.filterMap_cons, List.filterMap_nil, List.getElem?_cons_zero, List.getElem?_cons_succ, List.cons_append, List.nil_append, List.append_nil, at0, at1, at2, isi_int, isi_bool, isi_tup, eqvI, Option.some.injEq, exists_eq_left', true_and, and_true, wipeR, Bool.not_true, Bool.not_false, forall_const, List.map_cons, List.map_nil, reduceCtorEq, false_implies, implies_true, true_implies, Bool.true_eq_false, Bool.false_eq_true, eq_self, o_slc, i2_nh]
  refine sat_imp (h _) ?_
  rintro _ rfl
  simp only [sOk, sat_bad, own_c0, own_cs, set_c0, set_cs, getS_c0, getS_cs, e_var, e_bor, e_iou, e_mov, e_frz, frz_some, e_cst, e_glb, e_flat, e_op1, e_op2, e_chn, chn_b, e_and, e_or, e_ife, lst_l, e_tup, e_lst, e_nil, e_cons, e_sub, e_key, e_slc, e_nop, e_rev, e_blt, e_call, it_l, it_t, e_comp, e_val, int_i, e_rng1, e_rng2, zip_l, zip_t, e_zip, e_pop, e_dsp, t_b, t_i, o_neg, o_not, o_add, o_sub, o_mul, o_fdv, o_mod, o_pow, o_lt, o_le, o_gt, o_ge, o_eq, o_ne, o_addL, o_inn, o_nin, o_isn, o_isnn, o_subL, o_subT, o_len, o_lenT, o_tupl, o_list, o_int, o_abs, o_max, o_min, o_gcd, o_sum, o_all, o_any, rb, eqvS, rf_nil, rf_none, rf_some, p_nil, p_none, p_some, a_nm, a_tup, a_nil, a_cons, s_skp, then_nx, then_rt, then_bk, then_ct, s_seq, s_asg, s_fre, s_par, ps_nil, ps_cons, s_exp, s_ret, s_rtn, s_ifs, s_lop, s_brk, s_cnt, s_nvr, s_app, s_set, s_setK, c_lst, ap_lst, si_lst, end_nx, end_rt, oo_nil, oo_0, oo_s, dk_c, dk_m, dk_d, dk_set, dk_can, dk_app, permL, List.filterMap_cons, List.filterMap_nil, List.getElem?_cons_zero, List.getElem?_cons_succ, List.cons_append, List.nil_append, List.append_nil, at0, at1, at2, isi_int, isi_bool, isi_tup, eqvI, Option.some.injEq, exists_eq_left', true_and, and_true, wipeR, Bool.not_true, Bool.not_false, forall_const, List.map_cons, List.map_nil, reduceCtorEq, false_implies, implies_true, true_implies, Bool.true_eq_false, Bool.false_eq_true, eq_self, o_slc, i2_nh]
  refine ⟨fun hc => absurd (of_decide_eq_true hc) (by omega), fun _ => ?_⟩
  simp only [s_is_period_number_1, sOk, sat_bad, own_c0, own_cs, set_c0, set_cs, getS_c0, getS_cs, e_var, e_bor, e_iou, e_mov, e_frz, frz_some, e_cst, e_glb, e_flat, e_op1, e_op2, e_chn, chn_b, e_and, e_or, e_ife, lst_l, e_tup, e_lst, e_nil, e_cons, e_sub, e_key, e_slc, e_nop, e_rev, e_blt, e_call, it_l, it_t, e_comp, e_val, int_i, e_rng1, e_rng2, zip_l, zip_t, e_zip, e_pop, e_dsp, t_b, t_i, o_neg, o_not, o_add, o_sub, o_mul, o_fdv, o_mod, o_pow, o_lt, o_le, o_gt, o_ge, o_eq, o_ne, o_addL, o_inn, o_nin, o_isn, o_isnn, o_subL, o_subT, o_len, o_lenT, o_tupl, o_list, o_int, o_abs, o_max, o_min, o_gcd, o_sum, o_all, o_any, rb, eqvS, rf_nil, rf_none, rf_some, p_nil, p_none, p_some, a_nm, a_tup, a_nil, a_cons, s_skp, then_nx, then_rt, then_bk, then_ct, s_seq, s_asg, s_fre, s_par, ps_nil, ps_cons, s_exp, s_ret, s_rtn, s_ifs, s_lop, s_brk, s_cnt, s_nvr, s_app, s_set, s_setK, c_lst, ap_lst, si_lst, end_nx, end_rt, oo_nil, oo_0, oo_s, dk_c, dk_m, dk_d, dk_set, dk_can, dk_app, permL, List.filterMap_cons, List.filterMap_nil, List.getElem?_cons_zero, List.getElem?_cons_succ, List.cons_append, List.nil_append, List.append_nil, at0, at1, at2, isi_int, isi_bool, isi_tup, eqvI, Option.some.injEq, exists_eq_left', true_and, and_true, wipeR, Bool.not_true, Bool.not_false, forall_const, List.map_cons, List.map_nil, reduceCtorEq, false_implies, implies_true, true_implies, Bool.true_eq_false, Bool.false_eq_true, eq_self, o_slc, i2_nh]
  simp only [s_is_period_number_2, sOk, sat_bad, own_c0, own_cs, set_c0, set_cs, getS_c0, getS_cs, e_var, e_bor, e_iou, e_mov, e_frz, frz_some, e_cst, e_glb, e_flat, e_op1, e_op2, e_chn, chn_b, e_and, e_or, e_ife, lst_l, e_tup, e_lst, e_nil, e_cons, e_sub, e_key, e_slc, e_nop, e_rev, e_blt, e_call, it_l, it_t, e_comp, e_val, int_i, e_rng1, e_rng2, zip_l, zip_t, e_zip, e_pop, e_dsp, t_b, t_i, o_neg, o_not, o_add, o_sub, o_mul, o_fdv, o_mod, o_pow, o_lt, o_le, o_gt, o_ge, o_eq, o_ne, o_addL, o_inn, o_nin, o_isn, o_isnn, o_subL, o_subT, o_len, o_lenT, o_tupl, o_list, o_int, o_abs, o_max, o_min, o_gcd, o_sum, o_all, o_any, rb, eqvS, rf_nil, rf_none, rf_some, p_nil, p_none, p_some, a_nm, a_tup, a_nil, a_cons, s_skp, then_nx, then_rt, then_bk, then_ct, s_seq, s_asg, s_fre, s_par, ps_nil, ps_cons, s_exp, s_ret, s_rtn, s_ifs, s_lop, s_brk, s_cnt, s_nvr, s_app, s_set, s_setK, c_lst, ap_lst, si_lst, end_nx, end_rt, oo_nil, oo_0, oo_s, dk_c, dk_m, dk_d, dk_set, dk_can, dk_app, permL, List.filterMap_cons, List.filterMap_nil, List.getElem?_cons_zero, List.getElem?_cons_succ, List.cons_append, List.nil_append, List.append_nil, at0, at1, at2, isi_int, isi_bool, isi_tup, eqvI, Option.some.injEq, exists_eq_left', true_and, and_true, wipeR, Bool.not_true, Bool.not_false, forall_const, List.map_cons, List.map_nil, reduceCtorEq, false_implies, implies_true, true_implies, Bool.true_eq_false, Bool.false_eq_true, eq_self, o_slc, i2_nh]
  refine ⟨by decide, ?_⟩
  refine loop_inv (I := fun i ρ => ∃ s, ρ = [some (0, .int (per L)), some (0, .int (prodN ((belowK L (2 + i)).map Prod.fst) : Nat)), some (0, .int (per (fromK L (2 + i)) : Nat)), s]) (rangeD 2 30) 0 (fun i d ρ hd hI => ?_) ⟨none, ?_⟩ (fun ρ' hI => ?_)
  · obtain ⟨rfl, hi⟩ := range_get hd
    rw [Nat.zero_add] at hI ⊢
    obtain ⟨s, rfl⟩ := hI
    have hk : ((2 : Int) + (i : Int)) = ((2 + i : Nat) : Int) := by omega
    have hk30 : 2 + i < 30 := by omega
    rw [hk, show 2 + (i + 1) = (2 + i) + 1 by omega]
    generalize hkk : 2 + i = k at *
    have k2 : 2 ≤ k := by omega
    simp only [loopB_sat, b_is_period_number_2b, s_is_period_number_2b_0, sOk, sat_bad, own_c0, own_cs, set_c0, set_cs, getS_c0, getS_cs, e_var, e_bor, e_iou, e_mov, e_frz, frz_some, e_cst, e_glb, e_flat, e_op1, e_op2, e_chn, chn_b, e_and, e_or, e_ife, lst_l, e_tup, e_lst, e_nil, e_cons, e_sub, e_key, e_slc, e_nop, e_rev, e_blt, e_call, it_l, it_t, e_comp, e_val, int_i, e_rng1, e_rng2, zip_l, zip_t, e_zip, e_pop, e_dsp, t_b, t_i, o_neg, o_not, o_add, o_sub, o_mul, o_fdv, o_mod, o_pow, o_lt, o_le, o_gt, o_ge, o_eq, o_ne, o_addL, o_inn, o_nin, o_isn, o_isnn, o_subL, o_subT, o_len, o_lenT, o_tupl, o_list, o_int, o_abs, o_max, o_min, o_gcd, o_sum, o_all, o_any, rb, eqvS, rf_nil, rf_none, rf_some, p_nil, p_none, p_some, a_nm, a_tup, a_nil, a_cons, s_skp, then_nx, then_rt, then_bk, then_ct, s_seq, s_asg, s_fre, s_par, ps_nil, ps_cons, s_exp, s_ret, s_rtn, s_ifs, s_lop, s_brk, s_cnt, s_nvr, s_app, s_set, s_setK, c_lst, ap_lst, si_lst, end_nx, end_rt, oo_nil, oo_0, oo_s, dk_c, dk_m, dk_d, dk_set, dk_can, dk_app, permL, List.filterMap_cons, List.filterMap_nil, List.getElem?_cons_zero, List.getElem?_cons_succ, List.cons_append, List.nil_append, List.append_nil, at0, at1, at2, isi_int, isi_bool, isi_tup, eqvI, Option.some.injEq, exists_eq_left', true_and, and_true, wipeR, Bool.not_true, Bool.not_false, forall_const, List.map_cons, List.map_nil, reduceCtorEq, false_implies, implies_true, true_implies, Bool.true_eq_false, Bool.false_eq_true, eq_self, o_slc, i2_nh]
    have kp : (0 : Int) < (k : Int) := by omega
    refine ⟨kp, ⟨rfl, rfl⟩, fun hc => ?_, fun hc => ?_⟩
    · have hc : k ∣ per (fromK L k) := modN.mp (of_decide_eq_true hc)
      have hex : ∃ x ∈ L, x.1 = k := Classical.byContradiction fun hn => from_cop P k2 (fun x hx e => hn ⟨x, hx, e⟩) hc
      obtain ⟨x, hx, rfl⟩ := hex
      obtain ⟨e1, e2⟩ := from_take P hx
      obtain ⟨ex, he⟩ := P.pw x hx
      have hnot := from_not P hx
      have hroot : prodN ((belowK L x.1).map Prod.fst) ≤ 1000 := Nat.le_trans (prodN_filter _ _ L fun y hy => by have := (pr_bd (P.pr y hy)).1; omega) P.root
      have hle : x.2 ≤ per L := Nat.le_of_dvd hpos (dvd_per hx)
      rw [he] at hle
      have hlt : ex + 1 < 2 ^ (ex + 1) := Nat.lt_two_pow_self
      have hpw : 2 ^ (ex + 1) ≤ x.1 ^ (ex + 1) := Nat.pow_le_pow_left k2 _
      simp only [b_is_period_number_2b_0t, s_is_period_number_2b_0t_0, sOk, sat_bad, own_c0, own_cs, set_c0, set_cs, getS_c0, getS_cs, e_var, e_bor, e_iou, e_mov, e_frz, frz_some, e_cst, e_glb, e_flat, e_op1, e_op2, e_chn, chn_b, e_and, e_or, e_ife, lst_l, e_tup, e_lst, e_nil, e_cons, e_sub, e_key, e_slc, e_nop, e_rev, e_blt, e_call, it_l, it_t, e_comp, e_val, int_i, e_rng1, e_rng2, zip_l, zip_t, e_zip, e_pop, e_dsp, t_b, t_i, o_neg, o_not, o_add, o_sub, o_mul, o_fdv, o_mod, o_pow, o_lt, o_le, o_gt, o_ge, o_eq, o_ne, o_addL, o_inn, o_nin, o_isn, o_isnn, o_subL, o_subT, o_len, o_lenT, o_tupl, o_list, o_int, o_abs, o_max, o_min, o_gcd, o_sum, o_all, o_any, rb, eqvS, rf_nil, rf_none, rf_some, p_nil, p_none, p_some, a_nm, a_tup, a_nil, a_cons, s_skp, then_nx, then_rt, then_bk, then_ct, s_seq, s_asg, s_fre, s_par, ps_nil, ps_cons, s_exp, s_ret, s_rtn, s_ifs, s_lop, s_brk, s_cnt, s_nvr, s_app, s_set, s_setK, c_lst, ap_lst, si_lst, end_nx, end_rt, oo_nil, oo_0, oo_s, dk_c, dk_m, dk_d, dk_set, dk_can, dk_app, permL, List.filterMap_cons, List.filterMap_nil, List.getElem?_cons_zero, List.getElem?_cons_succ, List.cons_append, List.nil_append, List.append_nil, at0, at1, at2, isi_int, isi_bool, isi_tup, eqvI, Option.some.injEq, exists_eq_left', true_and, and_true, wipeR, Bool.not_true, Bool.not_false, forall_const, List.map_cons, List.map_nil, reduceCtorEq, false_implies, implies_true, true_implies, Bool.true_eq_false, Bool.false_eq_true, eq_self, o_slc, i2_nh]
      refine ⟨mulOk_of (by omega) (by omega), ?_⟩
      simp only [s_is_period_number_2b_0t_1, s_whl]
      rw [e2, Nat.mul_comm x.1, Int.natCast_mul]
      refine whl_inv (I := fun j ρ => ρ = [some (0, .int (per L)), some (0, .int ((prodN ((belowK L x.1).map Prod.fst) : Nat) * (x.1 : Int))), some (0, .int ((x.1 ^ j * per (fromK L (x.1 + 1)) : Nat) : Int)), some (0, .int x.1)]) ?_ fu (ex + 1) ?_ ?_
      · rintro j _ rfl
        simp only [sOk, sat_bad, own_c0, own_cs, set_c0, set_cs, getS_c0, getS_cs, e_var, e_bor, e_iou, e_mov, e_frz, frz_some, e_cst, e_glb, e_flat, e_op1, e_op2, e_chn, chn_b, e_and, e_or, e_ife, lst_l, e_tup, e_lst, e_nil, e_cons, e_sub, e_key, e_slc, e_nop, e_rev, e_blt, e_call, it_l, it_t, e_comp, e_val, int_i, e_rng1, e_rng2, zip_l, zip_t, e_zip, e_pop, e_dsp, t_b, t_i, o_neg, o_not, o_add, o_sub, o_mul, o_fdv, o_mod, o_pow, o_lt, o_le, o_gt, o_ge, o_eq, o_ne, o_addL, o_inn, o_nin, o_isn, o_isnn, o_subL, o_subT, o_len, o_lenT, o_tupl, o_list, o_int, o_abs, o_max, o_min, o_gcd, o_sum, o_all, o_any, rb, eqvS, rf_nil, rf_none, rf_some, p_nil, p_none, p_some, a_nm, a_tup, a_nil, a_cons, s_skp, then_nx, then_rt, then_bk, then_ct, s_seq, s_asg, s_fre, s_par, ps_nil, ps_cons, s_exp, s_ret, s_rtn, s_ifs, s_lop, s_brk, s_cnt, s_nvr, s_app, s_set, s_setK, c_lst, ap_lst, si_lst, end_nx, end_rt, oo_nil, oo_0, oo_s, dk_c, dk_m, dk_d, dk_set, dk_can, dk_app, permL, List.filterMap_cons, List.filterMap_nil, List.getElem?_cons_zero, List.getElem?_cons_succ, List.cons_append, List.nil_append, List.append_nil, at0, at1, at2, isi_int, isi_bool, isi_tup, eqvI, Option.some.injEq, exists_eq_left', true_and, and_true, wipeR, Bool.not_true, Bool.not_false, forall_const, List.map_cons, List.map_nil, reduceCtorEq, false_implies, implies_true, true_implies, Bool.true_eq_false, Bool.false_eq_true, eq_self, o_slc, i2_nh]
        refine ⟨kp, ⟨rfl, rfl⟩, fun hc => ?_, fun hc => ?_⟩
        · have hc : x.1 ∣ x.1 ^ j * per (fromK L (x.1 + 1)) := modN.mp (of_decide_eq_true hc)
          cases j with
          | zero =>
            rw [Nat.pow_zero, Nat.one_mul] at hc
            exact absurd hc hnot
          | succ j =>
            simp only [b_is_period_number_2b_0t_1b, s_is_period_number_2b_0t_1b_0, sOk, sat_bad, own_c0, own_cs, set_c0, set_cs, getS_c0, getS_cs, e_var, e_bor, e_iou, e_mov, e_frz, frz_some, e_cst, e_glb, e_flat, e_op1, e_op2, e_chn, chn_b, e_and, e_or, e_ife, lst_l, e_tup, e_lst, e_nil, e_cons, e_sub, e_key, e_slc, e_nop, e_rev, e_blt, e_call, it_l, it_t, e_comp, e_val, int_i, e_rng1, e_rng2, zip_l, zip_t, e_zip, e_pop, e_dsp, t_b, t_i, o_neg, o_not, o_add, o_sub, o_mul, o_fdv, o_mod, o_pow, o_lt, o_le, o_gt, o_ge, o_eq, o_ne, o_addL, o_inn, o_nin, o_isn, o_isnn, o_subL, o_subT, o_len, o_lenT, o_tupl, o_list, o_int, o_abs, o_max, o_min, o_gcd, o_sum, o_all, o_any, rb, eqvS, rf_nil, rf_none, rf_some, p_nil, p_none, p_some, a_nm, a_tup, a_nil, a_cons, s_skp, then_nx, then_rt, then_bk, then_ct, s_seq, s_asg, s_fre, s_par, ps_nil, ps_cons, s_exp, s_ret, s_rtn, s_ifs, s_lop, s_brk, s_cnt, s_nvr, s_app, s_set, s_setK, c_lst, ap_lst, si_lst, end_nx, end_rt, oo_nil, oo_0, oo_s, dk_c, dk_m, dk_d, dk_set, dk_can, dk_app, permL, List.filterMap_cons, List.filterMap_nil, List.getElem?_cons_zero, List.getElem?_cons_succ, List.cons_append, List.nil_append, List.append_nil, at0, at1, at2, isi_int, isi_bool, isi_tup, eqvI, Option.some.injEq, exists_eq_left', true_and, and_true, wipeR, Bool.not_true, Bool.not_false, forall_const, List.map_cons, List.map_nil, reduceCtorEq, false_implies, implies_true, true_implies, Bool.true_eq_false, Bool.false_eq_true, eq_self, o_slc, i2_nh]
            refine ⟨⟨kp, lg kp (by omega)⟩, .inl trivial, j, by omega, ?_⟩
            rw [← Int.natCast_ediv, Nat.pow_succ, Nat.mul_right_comm, Nat.mul_div_cancel _ (by omega)]
        · have hc : ¬ x.1 ∣ x.1 ^ j * per (fromK L (x.1 + 1)) := fun d => of_decide_eq_false hc (modN.mpr d)
          cases j with
          | zero =>
            refine ⟨.inl trivial, some (0, .int x.1), ?_⟩
            rw [Nat.pow_zero, Nat.one_mul]
          | succ j =>
            refine absurd ?_ hc
            rw [Nat.pow_succ, Nat.mul_assoc, Nat.mul_left_comm]
            exact Nat.dvd_mul_right _ _
      · rw [e1, he]
      · have : 10 ^ 40 < 10 ^ 300 := by decide
        omega
    · have hc : ¬ k ∣ per (fromK L k) := fun d => of_decide_eq_false hc (modN.mpr d)
      have hex : ∀ x ∈ L, x.1 ≠ k := fun x hx e => hc (by
        subst e
        rw [(from_take P hx).1]
        exact Nat.dvd_trans (P.p_dvd_q hx) (Nat.dvd_mul_right _ _))
      refine ⟨.inl trivial, some (0, .int k), ?_⟩
      rw [from_skip hex, below_skip hex]
  · rw [Nat.add_zero, below_start P, from_start P]
    rfl
  · rw [range_len] at hI
    obtain ⟨s, rfl⟩ := hI
    have e30 : 2 + (0 + ((30 : Int) - 2).toNat) = 30 := by decide
    rw [e30, from_end P, below_end P]
    simp only [then_nx, s_is_period_number_3, sOk, sat_bad, own_c0, own_cs, set_c0, set_cs, getS_c0, getS_cs, e_var, e_bor, e_iou, e_mov, e_frz, frz_some, e_cst, e_glb, e_flat, e_op1, e_op2, e_chn, chn_b, e_and, e_or, e_ife, lst_l, e_tup, e_lst, e_nil, e_cons, e_sub, e_key, e_slc, e_nop, e_rev, e_blt, e_call, it_l, it_t, e_comp, e_val, int_i, e_rng1, e_rng2, zip_l, zip_t, e_zip, e_pop, e_dsp, t_b, t_i, o_neg, o_not, o_add, o_sub, o_mul, o_fdv, o_mod, o_pow, o_lt, o_le, o_gt, o_ge, o_eq, o_ne, o_addL, o_inn, o_nin, o_isn, o_isnn, o_subL, o_subT, o_len, o_lenT, o_tupl, o_list, o_int, o_abs, o_max, o_min, o_gcd, o_sum, o_all, o_any, rb, eqvS, rf_nil, rf_none, rf_some, p_nil, p_none, p_some, a_nm, a_tup, a_nil, a_cons, s_skp, then_nx, then_rt, then_bk, then_ct, s_seq, s_asg, s_fre, s_par, ps_nil, ps_cons, s_exp, s_ret, s_rtn, s_ifs, s_lop, s_brk, s_cnt, s_nvr, s_app, s_set, s_setK, c_lst, ap_lst, si_lst, end_nx, end_rt, oo_nil, oo_0, oo_s, dk_c, dk_m, dk_d, dk_set, dk_can, dk_app, permL, List.filterMap_cons, List.filterMap_nil, List.getElem?_cons_zero, List.getElem?_cons_succ, List.cons_append, List.nil_append, List.append_nil, at0, at1, at2, isi_int, isi_bool, isi_tup, eqvI, Option.some.injEq, exists_eq_left', true_and, and_true, wipeR, Bool.not_true, Bool.not_false, forall_const, List.map_cons, List.map_nil, reduceCtorEq, false_implies, implies_true, true_implies, Bool.true_eq_false, Bool.false_eq_true, eq_self, o_slc, i2_nh]
    have h1 : ((per [] : Nat) : Int) = 1 := rfl
    have hr : ((prodN (L.map Prod.fst) : Nat) : Int) ≤ 1000 := by have := P.root; omega
    simp only [h1, decide_true, sOk, sat_bad, own_c0, own_cs, set_c0, set_cs, getS_c0, getS_cs, e_var, e_bor, e_iou, e_mov, e_frz, frz_some, e_cst, e_glb, e_flat, e_op1, e_op2, e_chn, chn_b, e_and, e_or, e_ife, lst_l, e_tup, e_lst, e_nil, e_cons, e_sub, e_key, e_slc, e_nop, e_rev, e_blt, e_call, it_l, it_t, e_comp, e_val, int_i, e_rng1, e_rng2, zip_l, zip_t, e_zip, e_pop, e_dsp, t_b, t_i, o_neg, o_not, o_add, o_sub, o_mul, o_fdv, o_mod, o_pow, o_lt, o_le, o_gt, o_ge, o_eq, o_ne, o_addL, o_inn, o_nin, o_isn, o_isnn, o_subL, o_subT, o_len, o_lenT, o_tupl, o_list, o_int, o_abs, o_max, o_min, o_gcd, o_sum, o_all, o_any, rb, eqvS, rf_nil, rf_none, rf_some, p_nil, p_none, p_some, a_nm, a_tup, a_nil, a_cons, s_skp, then_nx, then_rt, then_bk, then_ct, s_seq, s_asg, s_fre, s_par, ps_nil, ps_cons, s_exp, s_ret, s_rtn, s_ifs, s_lop, s_brk, s_cnt, s_nvr, s_app, s_set, s_setK, c_lst, ap_lst, si_lst, end_nx, end_rt, oo_nil, oo_0, oo_s, dk_c, dk_m, dk_d, dk_set, dk_can, dk_app, permL, List.filterMap_cons, List.filterMap_nil, List.getElem?_cons_zero, List.getElem?_cons_succ, List.cons_append, List.nil_append, List.append_nil, at0, at1, at2, isi_int, isi_bool, isi_tup, eqvI, Option.some.injEq, exists_eq_left', true_and, and_true, wipeR, Bool.not_true, Bool.not_false, forall_const, List.map_cons, List.map_nil, reduceCtorEq, false_implies, implies_true, true_implies, Bool.true_eq_false, Bool.false_eq_true, eq_self, o_slc, i2_nh]
    refine ⟨⟨rfl, rfl⟩, ?_⟩
    rw [decide_eq_true hr]
theorem stripe_ok (h0 : IsIntOk (G i_is_integer)) (h1 : PeriodOk (G i_is_period_number)) (h2 : ClassOk (G i_is_class_row)) : StripeOk (runDf G fu d_is_stripe_row) := by
  intro L c r P v r0 r1
  unfold TrueOk
  rw [s_run rfl]
  show (exS G fu d_is_stripe_row.body [some (0, stripe (per L) c r)]).sat (endB [0] _)
  simp only [d_is_stripe_row, s_is_stripe_row_0, sOk, sat_bad, own_c0, own_cs, set_c0, set_cs, getS_c0, getS_cs, e_var, e_bor, e_iou, e_mov, e_frz, frz_some, e_cst, e_glb, e_flat, e_op1, e_op2, e_chn, chn_b, e_and, e_or, e_ife, lst_l, e_tup, e_lst, e_nil, e_cons, e_sub, e_key, e_slc, e_nop, e_rev, e_blt, e_call, it_l, it_t, e_comp, e_val, int_i, e_rng1, e_rng2, zip_l, zip_t, e_zip, e_pop, e_dsp, t_b, t_i, o_neg, o_not, o_add, o_sub, o_mul, o_fdv, o_mod, o_pow, o_lt, o_le, o_gt, o_ge, o_eq, o_ne, o_addL, o_inn, o_nin, o_isn, o_isnn, o_subL, o_subT, o_len, o_lenT, o_tupl, o_list, o_int, o_abs, o_max, o_min, o_gcd, o_sum, o_all, o_any, rb, eqvS, rf_nil, rf_none, rf_some, p_nil, p_none, p_some, a_nm, a_tup, a_nil, a_cons, s_skp, then_nx, then_rt, then_bk, then_ct, s_seq, s_asg, s_fre, s_par, ps_nil, ps_cons, s_exp, s_ret, s_rtn, s_ifs, s_lop, s_brk, s_cnt, s_nvr, s_app, s_set, s_setK, c_lst, ap_lst, si_lst, end_nx, end_rt, oo_nil, oo_0, oo_s, dk_c, dk_m, dk_d, dk_set, dk_can, dk_app, permL, List.filterMap_cons, List.filterMap_nil, List.getElem?_cons_zero, List.getElem?_cons_succ, List.cons_append, List.nil_append, List.append_nil, at0, at1, at2, isi_int, isi_bool, isi_tup, eqvI, Option.some.injEq, exists_eq_left', true_and, and_true, wipeR, Bool.not_true, Bool.not_false, forall_const, List.map_cons, List.map_nil, reduceCtorEq, false_implies, implies_true, true_implies, Bool.true_eq_false, Bool.false_eq_true, eq_self, o_slc, i2_nh, stripe, List.length_cons, List.length_nil]
  refine ⟨⟨rfl, rfl⟩, fun hc => absurd hc (by decide), fun _ => ?_⟩
  refine sat_imp (h1 L P) ?_
  rintro _ rfl
  simp only [sOk, sat_bad, own_c0, own_cs, set_c0, set_cs, getS_c0, getS_cs, e_var, e_bor, e_iou, e_mov, e_frz, frz_some, e_cst, e_glb, e_flat, e_op1, e_op2, e_chn, chn_b, e_and, e_or, e_ife, lst_l, e_tup, e_lst, e_nil, e_cons, e_sub, e_key, e_slc, e_nop, e_rev, e_blt, e_call, it_l, it_t, e_comp, e_val, int_i, e_rng1, e_rng2, zip_l, zip_t, e_zip, e_pop, e_dsp, t_b, t_i, o_neg, o_not, o_add, o_sub, o_mul, o_fdv, o_mod, o_pow, o_lt, o_le, o_gt, o_ge, o_eq, o_ne, o_addL, o_inn, o_nin, o_isn, o_isnn, o_subL, o_subT, o_len, o_lenT, o_tupl, o_list, o_int, o_abs, o_max, o_min, o_gcd, o_sum, o_all, o_any, rb, eqvS, rf_nil, rf_none, rf_some, p_nil, p_none, p_some, a_nm, a_tup, a_nil, a_cons, s_skp, then_nx, then_rt, then_bk, then_ct, s_seq, s_asg, s_fre, s_par, ps_nil, ps_cons, s_exp, s_ret, s_rtn, s_ifs, s_lop, s_brk, s_cnt, s_nvr, s_app, s_set, s_setK, c_lst, ap_lst, si_lst, end_nx, end_rt, oo_nil, oo_0, oo_s, dk_c, dk_m, dk_d, dk_set, dk_can, dk_app, permL, List.filterMap_cons, List.filterMap_nil, List.getElem?_cons_zero, List.getElem?_cons_succ, List.cons_append, List.nil_append, List.append_nil, at0, at1, at2, isi_int, isi_bool, isi_tup, eqvI, Option.some.injEq, exists_eq_left', true_and, and_true, wipeR, Bool.not_true, Bool.not_false, forall_const, List.map_cons, List.map_nil, reduceCtorEq, false_implies, implies_true, true_implies, Bool.true_eq_false, Bool.false_eq_true, eq_self, o_slc, i2_nh]
  simp only [s_is_stripe_row_1, sOk, sat_bad, own_c0, own_cs, set_c0, set_cs, getS_c0, getS_cs, e_var, e_bor, e_iou, e_mov, e_frz, frz_some, e_cst, e_glb, e_flat, e_op1, e_op2, e_chn, chn_b, e_and, e_or, e_ife, lst_l, e_tup, e_lst, e_nil, e_cons, e_sub, e_key, e_slc, e_nop, e_rev, e_blt, e_call, it_l, it_t, e_comp, e_val, int_i, e_rng1, e_rng2, zip_l, zip_t, e_zip, e_pop, e_dsp, t_b, t_i, o_neg, o_not, o_add, o_sub, o_mul, o_fdv, o_mod, o_pow, o_lt, o_le, o_gt, o_ge, o_eq, o_ne, o_addL, o_inn, o_nin, o_isn, o_isnn, o_subL, o_subT, o_len, o_lenT, o_tupl, o_list, o_int, o_abs, o_max, o_min, o_gcd, o_sum, o_all, o_any, rb, eqvS, rf_nil, rf_none, rf_some, p_nil, p_none, p_some, a_nm, a_tup, a_nil, a_cons, s_skp, then_nx, then_rt, then_bk, then_ct, s_seq, s_asg, s_fre, s_par, ps_nil, ps_cons, s_exp, s_ret, s_rtn, s_ifs, s_lop, s_brk, s_cnt, s_nvr, s_app, s_set, s_setK, c_lst, ap_lst, si_lst, end_nx, end_rt, oo_nil, oo_0, oo_s, dk_c, dk_m, dk_d, dk_set, dk_can, dk_app, permL, List.filterMap_cons, List.filterMap_nil, List.getElem?_cons_zero, List.getElem?_cons_succ, List.cons_append, List.nil_append, List.append_nil, at0, at1, at2, isi_int, isi_bool, isi_tup, eqvI, Option.some.injEq, exists_eq_left', true_and, and_true, wipeR, Bool.not_true, Bool.not_false, forall_const, List.map_cons, List.map_nil, reduceCtorEq, false_implies, implies_true, true_implies, Bool.true_eq_false, Bool.false_eq_true, eq_self, o_slc, i2_nh]
  refine sat_imp (h2 L c P v) ?_
  rintro _ rfl
  simp only [sOk, sat_bad, own_c0, own_cs, set_c0, set_cs, getS_c0, getS_cs, e_var, e_bor, e_iou, e_mov, e_frz, frz_some, e_cst, e_glb, e_flat, e_op1, e_op2, e_chn, chn_b, e_and, e_or, e_ife, lst_l, e_tup, e_lst, e_nil, e_cons, e_sub, e_key, e_slc, e_nop, e_rev, e_blt, e_call, it_l, it_t, e_comp, e_val, int_i, e_rng1, e_rng2, zip_l, zip_t, e_zip, e_pop, e_dsp, t_b, t_i, o_neg, o_not, o_add, o_sub, o_mul, o_fdv, o_mod, o_pow, o_lt, o_le, o_gt, o_ge, o_eq, o_ne, o_addL, o_inn, o_nin, o_isn, o_isnn, o_subL, o_subT, o_len, o_lenT, o_tupl, o_list, o_int, o_abs, o_max, o_min, o_gcd, o_sum, o_all, o_any, rb, eqvS, rf_nil, rf_none, rf_some, p_nil, p_none, p_some, a_nm, a_tup, a_nil, a_cons, s_skp, then_nx, then_rt, then_bk, then_ct, s_seq, s_asg, s_fre, s_par, ps_nil, ps_cons, s_exp, s_ret, s_rtn, s_ifs, s_lop, s_brk, s_cnt, s_nvr, s_app, s_set, s_setK, c_lst, ap_lst, si_lst, end_nx, end_rt, oo_nil, oo_0, oo_s, dk_c, dk_m, dk_d, dk_set, dk_can, dk_app, permL, List.filterMap_cons, List.filterMap_nil, List.getElem?_cons_zero, List.getElem?_cons_succ, List.cons_append, List.nil_append, List.append_nil, at0, at1, at2, isi_int, isi_bool, isi_tup, eqvI, Option.some.injEq, exists_eq_left', true_and, and_true, wipeR, Bool.not_true, Bool.not_false, forall_const, List.map_cons, List.map_nil, reduceCtorEq, false_implies, implies_true, true_implies, Bool.true_eq_false, Bool.false_eq_true, eq_self, o_slc, i2_nh]
  refine sat_imp (h0 r) ?_
  rintro _ rfl
  simp only [sOk, sat_bad, own_c0, own_cs, set_c0, set_cs, getS_c0, getS_cs, e_var, e_bor, e_iou, e_mov, e_frz, frz_some, e_cst, e_glb, e_flat, e_op1, e_op2, e_chn, chn_b, e_and, e_or, e_ife, lst_l, e_tup, e_lst, e_nil, e_cons, e_sub, e_key, e_slc, e_nop, e_rev, e_blt, e_call, it_l, it_t, e_comp, e_val, int_i, e_rng1, e_rng2, zip_l, zip_t, e_zip, e_pop, e_dsp, t_b, t_i, o_neg, o_not, o_add, o_sub, o_mul, o_fdv, o_mod, o_pow, o_lt, o_le, o_gt, o_ge, o_eq, o_ne, o_addL, o_inn, o_nin, o_isn, o_isnn, o_subL, o_subT, o_len, o_lenT, o_tupl, o_list, o_int, o_abs, o_max, o_min, o_gcd, o_sum, o_all, o_any, rb, eqvS, rf_nil, rf_none, rf_some, p_nil, p_none, p_some, a_nm, a_tup, a_nil, a_cons, s_skp, then_nx, then_rt, then_bk, then_ct, s_seq, s_asg, s_fre, s_par, ps_nil, ps_cons, s_exp, s_ret, s_rtn, s_ifs, s_lop, s_brk, s_cnt, s_nvr, s_app, s_set, s_setK, c_lst, ap_lst, si_lst, end_nx, end_rt, oo_nil, oo_0, oo_s, dk_c, dk_m, dk_d, dk_set, dk_can, dk_app, permL, List.filterMap_cons, List.filterMap_nil, List.getElem?_cons_zero, List.getElem?_cons_succ, List.cons_append, List.nil_append, List.append_nil, at0, at1, at2, isi_int, isi_bool, isi_tup, eqvI, Option.some.injEq, exists_eq_left', true_and, and_true, wipeR, Bool.not_true, Bool.not_false, forall_const, List.map_cons, List.map_nil, reduceCtorEq, false_implies, implies_true, true_implies, Bool.true_eq_false, Bool.false_eq_true, eq_self, o_slc, i2_nh]
  refine ⟨fun _ => ?_, fun hc => absurd r0 hc⟩
  rw [decide_eq_true r1]
theorem lies_ok (h : ProdAtOk (G i_product_at)) : LiesOk (runDf G fu d_lies_on) := by
  intro M c r x hM hl hc hx
  rw [s_run rfl]
  show (exS G fu d_lies_on.body [some (0, stripe M c r), some (0, .tuple (eI x))]).sat (endB [0, 0] _)
  simp only [d_lies_on, s_lies_on_0, sOk, sat_bad, own_c0, own_cs, set_c0, set_cs, getS_c0, getS_cs, e_var, e_bor, e_iou, e_mov, e_frz, frz_some, e_cst, e_glb, e_flat, e_op1, e_op2, e_chn, chn_b, e_and, e_or, e_ife, lst_l, e_tup, e_lst, e_nil, e_cons, e_sub, e_key, e_slc, e_nop, e_rev, e_blt, e_call, it_l, it_t, e_comp, e_val, int_i, e_rng1, e_rng2, zip_l, zip_t, e_zip, e_pop, e_dsp, t_b, t_i, o_neg, o_not, o_add, o_sub, o_mul, o_fdv, o_mod, o_pow, o_lt, o_le, o_gt, o_ge, o_eq, o_ne, o_addL, o_inn, o_nin, o_isn, o_isnn, o_subL, o_subT, o_len, o_lenT, o_tupl, o_list, o_int, o_abs, o_max, o_min, o_gcd, o_sum, o_all, o_any, rb, eqvS, rf_nil, rf_none, rf_some, p_nil, p_none, p_some, a_nm, a_tup, a_nil, a_cons, s_skp, then_nx, then_rt, then_bk, then_ct, s_seq, s_asg, s_fre, s_par, ps_nil, ps_cons, s_exp, s_ret, s_rtn, s_ifs, s_lop, s_brk, s_cnt, s_nvr, s_app, s_set, s_setK, c_lst, ap_lst, si_lst, end_nx, end_rt, oo_nil, oo_0, oo_s, dk_c, dk_m, dk_d, dk_set, dk_can, dk_app, permL, List.filterMap_cons, List.filterMap_nil, List.getElem?_cons_zero, List.getElem?_cons_succ, List.cons_append, List.nil_append, List.append_nil, at0, at1, at2, isi_int, isi_bool, isi_tup, eqvI, Option.some.injEq, exists_eq_left', true_and, and_true, wipeR, Bool.not_true, Bool.not_false, forall_const, List.map_cons, List.map_nil, reduceCtorEq, false_implies, implies_true, true_implies, Bool.true_eq_false, Bool.false_eq_true, eq_self, o_slc, i2_nh, stripe]
  refine sat_imp (h c x hl hc hx) ?_
  rintro _ rfl
  simp only [sOk, sat_bad, own_c0, own_cs, set_c0, set_cs, getS_c0, getS_cs, e_var, e_bor, e_iou, e_mov, e_frz, frz_some, e_cst, e_glb, e_flat, e_op1, e_op2, e_chn, chn_b, e_and, e_or, e_ife, lst_l, e_tup, e_lst, e_nil, e_cons, e_sub, e_key, e_slc, e_nop, e_rev, e_blt, e_call, it_l, it_t, e_comp, e_val, int_i, e_rng1, e_rng2, zip_l, zip_t, e_zip, e_pop, e_dsp, t_b, t_i, o_neg, o_not, o_add, o_sub, o_mul, o_fdv, o_mod, o_pow, o_lt, o_le, o_gt, o_ge, o_eq, o_ne, o_addL, o_inn, o_nin, o_isn, o_isnn, o_subL, o_subT, o_len, o_lenT, o_tupl, o_list, o_int, o_abs, o_max, o_min, o_gcd, o_sum, o_all, o_any, rb, eqvS, rf_nil, rf_none, rf_some, p_nil, p_none, p_some, a_nm, a_tup, a_nil, a_cons, s_skp, then_nx, then_rt, then_bk, then_ct, s_seq, s_asg, s_fre, s_par, ps_nil, ps_cons, s_exp, s_ret, s_rtn, s_ifs, s_lop, s_brk, s_cnt, s_nvr, s_app, s_set, s_setK, c_lst, ap_lst, si_lst, end_nx, end_rt, oo_nil, oo_0, oo_s, dk_c, dk_m, dk_d, dk_set, dk_can, dk_app, permL, List.filterMap_cons, List.filterMap_nil, List.getElem?_cons_zero, List.getElem?_cons_succ, List.cons_append, List.nil_append, List.append_nil, at0, at1, at2, isi_int, isi_bool, isi_tup, eqvI, Option.some.injEq, exists_eq_left', true_and, and_true, wipeR, Bool.not_true, Bool.not_false, forall_const, List.map_cons, List.map_nil, reduceCtorEq, false_implies, implies_true, true_implies, Bool.true_eq_false, Bool.false_eq_true, eq_self, o_slc, i2_nh]
  exact ⟨by omega, ⟨rfl, rfl⟩⟩
theorem need_ok (h : StripeOk (G i_is_stripe_row)) : NeedOk (runDf G fu d_need_stripes) := by
  intro L c r P v r0 r1
  rw [s_run rfl]
  show (exS G fu d_need_stripes.body [some (0, .tuple [stripe (per L) c r]), none]).sat (endB [0] _)
  simp only [d_need_stripes, s_need_stripes_0, sOk, sat_bad, own_c0, own_cs, set_c0, set_cs, getS_c0, getS_cs, e_var, e_bor, e_iou, e_mov, e_frz, frz_some, e_cst, e_glb, e_flat, e_op1, e_op2, e_chn, chn_b, e_and, e_or, e_ife, lst_l, e_tup, e_lst, e_nil, e_cons, e_sub, e_key, e_slc, e_nop, e_rev, e_blt, e_call, it_l, it_t, e_comp, e_val, int_i, e_rng1, e_rng2, zip_l, zip_t, e_zip, e_pop, e_dsp, t_b, t_i, o_neg, o_not, o_add, o_sub, o_mul, o_fdv, o_mod, o_pow, o_lt, o_le, o_gt, o_ge, o_eq, o_ne, o_addL, o_inn, o_nin, o_isn, o_isnn, o_subL, o_subT, o_len, o_lenT, o_tupl, o_list, o_int, o_abs, o_max, o_min, o_gcd, o_sum, o_all, o_any, rb, eqvS, rf_nil, rf_none, rf_some, p_nil, p_none, p_some, a_nm, a_tup, a_nil, a_cons, s_skp, then_nx, then_rt, then_bk, then_ct, s_seq, s_asg, s_fre, s_par, ps_nil, ps_cons, s_exp, s_ret, s_rtn, s_ifs, s_lop, s_brk, s_cnt, s_nvr, s_app, s_set, s_setK, c_lst, ap_lst, si_lst, end_nx, end_rt, oo_nil, oo_0, oo_s, dk_c, dk_m, dk_d, dk_set, dk_can, dk_app, permL, List.filterMap_cons, List.filterMap_nil, List.getElem?_cons_zero, List.getElem?_cons_succ, List.cons_append, List.nil_append, List.append_nil, at0, at1, at2, isi_int, isi_bool, isi_tup, eqvI, Option.some.injEq, exists_eq_left', true_and, and_true, wipeR, Bool.not_true, Bool.not_false, forall_const, List.map_cons, List.map_nil, reduceCtorEq, false_implies, implies_true, true_implies, Bool.true_eq_false, Bool.false_eq_true, eq_self, o_slc, i2_nh, loopL, Out.sat_bind, loopB_sat, b_need_stripes_0b, s_need_stripes_0b_0]
  refine sat_imp (h L c r P v r0 r1) ?_
  rintro _ rfl
  simp only [sOk, sat_bad, own_c0, own_cs, set_c0, set_cs, getS_c0, getS_cs, e_var, e_bor, e_iou, e_mov, e_frz, frz_some, e_cst, e_glb, e_flat, e_op1, e_op2, e_chn, chn_b, e_and, e_or, e_ife, lst_l, e_tup, e_lst, e_nil, e_cons, e_sub, e_key, e_slc, e_nop, e_rev, e_blt, e_call, it_l, it_t, e_comp, e_val, int_i, e_rng1, e_rng2, zip_l, zip_t, e_zip, e_pop, e_dsp, t_b, t_i, o_neg, o_not, o_add, o_sub, o_mul, o_fdv, o_mod, o_pow, o_lt, o_le, o_gt, o_ge, o_eq, o_ne, o_addL, o_inn, o_nin, o_isn, o_isnn, o_subL, o_subT, o_len, o_lenT, o_tupl, o_list, o_int, o_abs, o_max, o_min, o_gcd, o_sum, o_all, o_any, rb, eqvS, rf_nil, rf_none, rf_some, p_nil, p_none, p_some, a_nm, a_tup, a_nil, a_cons, s_skp, then_nx, then_rt, then_bk, then_ct, s_seq, s_asg, s_fre, s_par, ps_nil, ps_cons, s_exp, s_ret, s_rtn, s_ifs, s_lop, s_brk, s_cnt, s_nvr, s_app, s_set, s_setK, c_lst, ap_lst, si_lst, end_nx, end_rt, oo_nil, oo_0, oo_s, dk_c, dk_m, dk_d, dk_set, dk_can, dk_app, permL, List.filterMap_cons, List.filterMap_nil, List.getElem?_cons_zero, List.getElem?_cons_succ, List.cons_append, List.nil_append, List.append_nil, at0, at1, at2, isi_int, isi_bool, isi_tup, eqvI, Option.some.injEq, exists_eq_left', true_and, and_true, wipeR, Bool.not_true, Bool.not_false, forall_const, List.map_cons, List.map_nil, reduceCtorEq, false_implies, implies_true, true_implies, Bool.true_eq_false, Bool.false_eq_true, eq_self, o_slc, i2_nh]
theorem is_on_ok (h1 : NeedOk (G i_need_stripes)) (h2 : CellOfOk (G i_is_cell_of)) (h3 : LiesOk (G i_lies_on)) : IsOnOk (runDf G fu d_is_on) := by
  intro L c r x P v r0 r1 hl hx
  have hL : LIM = 1000000 := rfl
  have hv := v.len
  rw [s_run rfl]
  show (exS G fu d_is_on.body [some (0, stripe (per L) c r), some (0, .tuple (eI x))]).sat (endB [0, 0] _)
  simp only [d_is_on, s_is_on_0, sOk, sat_bad, own_c0, own_cs, set_c0, set_cs, getS_c0, getS_cs, e_var, e_bor, e_iou, e_mov, e_frz, frz_some, e_cst, e_glb, e_flat, e_op1, e_op2, e_chn, chn_b, e_and, e_or, e_ife, lst_l, e_tup, e_lst, e_nil, e_cons, e_sub, e_key, e_slc, e_nop, e_rev, e_blt, e_call, it_l, it_t, e_comp, e_val, int_i, e_rng1, e_rng2, zip_l, zip_t, e_zip, e_pop, e_dsp, t_b, t_i, o_neg, o_not, o_add, o_sub, o_mul, o_fdv, o_mod, o_pow, o_lt, o_le, o_gt, o_ge, o_eq, o_ne, o_addL, o_inn, o_nin, o_isn, o_isnn, o_subL, o_subT, o_len, o_lenT, o_tupl, o_list, o_int, o_abs, o_max, o_min, o_gcd, o_sum, o_all, o_any, rb, eqvS, rf_nil, rf_none, rf_some, p_nil, p_none, p_some, a_nm, a_tup, a_nil, a_cons, s_skp, then_nx, then_rt, then_bk, then_ct, s_seq, s_asg, s_fre, s_par, ps_nil, ps_cons, s_exp, s_ret, s_rtn, s_ifs, s_lop, s_brk, s_cnt, s_nvr, s_app, s_set, s_setK, c_lst, ap_lst, si_lst, end_nx, end_rt, oo_nil, oo_0, oo_s, dk_c, dk_m, dk_d, dk_set, dk_can, dk_app, permL, List.filterMap_cons, List.filterMap_nil, List.getElem?_cons_zero, List.getElem?_cons_succ, List.cons_append, List.nil_append, List.append_nil, at0, at1, at2, isi_int, isi_bool, isi_tup, eqvI, Option.some.injEq, exists_eq_left', true_and, and_true, wipeR, Bool.not_true, Bool.not_false, forall_const, List.map_cons, List.map_nil, reduceCtorEq, false_implies, implies_true, true_implies, Bool.true_eq_false, Bool.false_eq_true, eq_self, o_slc, i2_nh]
  refine sat_imp (h1 L c r P v r0 r1) ?_
  rintro ⟨_, _⟩ rfl
  simp only [sOk, sat_bad, own_c0, own_cs, set_c0, set_cs, getS_c0, getS_cs, e_var, e_bor, e_iou, e_mov, e_frz, frz_some, e_cst, e_glb, e_flat, e_op1, e_op2, e_chn, chn_b, e_and, e_or, e_ife, lst_l, e_tup, e_lst, e_nil, e_cons, e_sub, e_key, e_slc, e_nop, e_rev, e_blt, e_call, it_l, it_t, e_comp, e_val, int_i, e_rng1, e_rng2, zip_l, zip_t, e_zip, e_pop, e_dsp, t_b, t_i, o_neg, o_not, o_add, o_sub, o_mul, o_fdv, o_mod, o_pow, o_lt, o_le, o_gt, o_ge, o_eq, o_ne, o_addL, o_inn, o_nin, o_isn, o_isnn, o_subL, o_subT, o_len, o_lenT, o_tupl, o_list, o_int, o_abs, o_max, o_min, o_gcd, o_sum, o_all, o_any, rb, eqvS, rf_nil, rf_none, rf_some, p_nil, p_none, p_some, a_nm, a_tup, a_nil, a_cons, s_skp, then_nx, then_rt, then_bk, then_ct, s_seq, s_asg, s_fre, s_par, ps_nil, ps_cons, s_exp, s_ret, s_rtn, s_ifs, s_lop, s_brk, s_cnt, s_nvr, s_app, s_set, s_setK, c_lst, ap_lst, si_lst, end_nx, end_rt, oo_nil, oo_0, oo_s, dk_c, dk_m, dk_d, dk_set, dk_can, dk_app, permL, List.filterMap_cons, List.filterMap_nil, List.getElem?_cons_zero, List.getElem?_cons_succ, List.cons_append, List.nil_append, List.append_nil, at0, at1, at2, isi_int, isi_bool, isi_tup, eqvI, Option.some.injEq, exists_eq_left', true_and, and_true, wipeR, Bool.not_true, Bool.not_false, forall_const, List.map_cons, List.map_nil, reduceCtorEq, false_implies, implies_true, true_implies, Bool.true_eq_false, Bool.false_eq_true, eq_self, o_slc, i2_nh]
  simp only [s_is_on_1, sOk, sat_bad, own_c0, own_cs, set_c0, set_cs, getS_c0, getS_cs, e_var, e_bor, e_iou, e_mov, e_frz, frz_some, e_cst, e_glb, e_flat, e_op1, e_op2, e_chn, chn_b, e_and, e_or, e_ife, lst_l, e_tup, e_lst, e_nil, e_cons, e_sub, e_key, e_slc, e_nop, e_rev, e_blt, e_call, it_l, it_t, e_comp, e_val, int_i, e_rng1, e_rng2, zip_l, zip_t, e_zip, e_pop, e_dsp, t_b, t_i, o_neg, o_not, o_add, o_sub, o_mul, o_fdv, o_mod, o_pow, o_lt, o_le, o_gt, o_ge, o_eq, o_ne, o_addL, o_inn, o_nin, o_isn, o_isnn, o_subL, o_subT, o_len, o_lenT, o_tupl, o_list, o_int, o_abs, o_max, o_min, o_gcd, o_sum, o_all, o_any, rb, eqvS, rf_nil, rf_none, rf_some, p_nil, p_none, p_some, a_nm, a_tup, a_nil, a_cons, s_skp, then_nx, then_rt, then_bk, then_ct, s_seq, s_asg, s_fre, s_par, ps_nil, ps_cons, s_exp, s_ret, s_rtn, s_ifs, s_lop, s_brk, s_cnt, s_nvr, s_app, s_set, s_setK, c_lst, ap_lst, si_lst, end_nx, end_rt, oo_nil, oo_0, oo_s, dk_c, dk_m, dk_d, dk_set, dk_can, dk_app, permL, List.filterMap_cons, List.filterMap_nil, List.getElem?_cons_zero, List.getElem?_cons_succ, List.cons_append, List.nil_append, List.append_nil, at0, at1, at2, isi_int, isi_bool, isi_tup, eqvI, Option.some.injEq, exists_eq_left', true_and, and_true, wipeR, Bool.not_true, Bool.not_false, forall_const, List.map_cons, List.map_nil, reduceCtorEq, false_implies, implies_true, true_implies, Bool.true_eq_false, Bool.false_eq_true, eq_self, o_slc, i2_nh, stripe, List.length_map]
  refine sat_imp (h2 x c.length (by omega) (by omega) (by omega)) ?_
  rintro _ rfl
  simp only [sOk, sat_bad, own_c0, own_cs, set_c0, set_cs, getS_c0, getS_cs, e_var, e_bor, e_iou, e_mov, e_frz, frz_some, e_cst, e_glb, e_flat, e_op1, e_op2, e_chn, chn_b, e_and, e_or, e_ife, lst_l, e_tup, e_lst, e_nil, e_cons, e_sub, e_key, e_slc, e_nop, e_rev, e_blt, e_call, it_l, it_t, e_comp, e_val, int_i, e_rng1, e_rng2, zip_l, zip_t, e_zip, e_pop, e_dsp, t_b, t_i, o_neg, o_not, o_add, o_sub, o_mul, o_fdv, o_mod, o_pow, o_lt, o_le, o_gt, o_ge, o_eq, o_ne, o_addL, o_inn, o_nin, o_isn, o_isnn, o_subL, o_subT, o_len, o_lenT, o_tupl, o_list, o_int, o_abs, o_max, o_min, o_gcd, o_sum, o_all, o_any, rb, eqvS, rf_nil, rf_none, rf_some, p_nil, p_none, p_some, a_nm, a_tup, a_nil, a_cons, s_skp, then_nx, then_rt, then_bk, then_ct, s_seq, s_asg, s_fre, s_par, ps_nil, ps_cons, s_exp, s_ret, s_rtn, s_ifs, s_lop, s_brk, s_cnt, s_nvr, s_app, s_set, s_setK, c_lst, ap_lst, si_lst, end_nx, end_rt, oo_nil, oo_0, oo_s, dk_c, dk_m, dk_d, dk_set, dk_can, dk_app, permL, List.filterMap_cons, List.filterMap_nil, List.getElem?_cons_zero, List.getElem?_cons_succ, List.cons_append, List.nil_append, List.append_nil, at0, at1, at2, isi_int, isi_bool, isi_tup, eqvI, Option.some.injEq, exists_eq_left', true_and, and_true, wipeR, Bool.not_true, Bool.not_false, forall_const, List.map_cons, List.map_nil, reduceCtorEq, false_implies, implies_true, true_implies, Bool.true_eq_false, Bool.false_eq_true, eq_self, o_slc, i2_nh]
  simp only [s_is_on_2, sOk, sat_bad, own_c0, own_cs, set_c0, set_cs, getS_c0, getS_cs, e_var, e_bor, e_iou, e_mov, e_frz, frz_some, e_cst, e_glb, e_flat, e_op1, e_op2, e_chn, chn_b, e_and, e_or, e_ife, lst_l, e_tup, e_lst, e_nil, e_cons, e_sub, e_key, e_slc, e_nop, e_rev, e_blt, e_call, it_l, it_t, e_comp, e_val, int_i, e_rng1, e_rng2, zip_l, zip_t, e_zip, e_pop, e_dsp, t_b, t_i, o_neg, o_not, o_add, o_sub, o_mul, o_fdv, o_mod, o_pow, o_lt, o_le, o_gt, o_ge, o_eq, o_ne, o_addL, o_inn, o_nin, o_isn, o_isnn, o_subL, o_subT, o_len, o_lenT, o_tupl, o_list, o_int, o_abs, o_max, o_min, o_gcd, o_sum, o_all, o_any, rb, eqvS, rf_nil, rf_none, rf_some, p_nil, p_none, p_some, a_nm, a_tup, a_nil, a_cons, s_skp, then_nx, then_rt, then_bk, then_ct, s_seq, s_asg, s_fre, s_par, ps_nil, ps_cons, s_exp, s_ret, s_rtn, s_ifs, s_lop, s_brk, s_cnt, s_nvr, s_app, s_set, s_setK, c_lst, ap_lst, si_lst, end_nx, end_rt, oo_nil, oo_0, oo_s, dk_c, dk_m, dk_d, dk_set, dk_can, dk_app, permL, List.filterMap_cons, List.filterMap_nil, List.getElem?_cons_zero, List.getElem?_cons_succ, List.cons_append, List.nil_append, List.append_nil, at0, at1, at2, isi_int, isi_bool, isi_tup, eqvI, Option.some.injEq, exists_eq_left', true_and, and_true, wipeR, Bool.not_true, Bool.not_false, forall_const, List.map_cons, List.map_nil, reduceCtorEq, false_implies, implies_true, true_implies, Bool.true_eq_false, Bool.false_eq_true, eq_self, o_slc, i2_nh]
  refine sat_imp (h3 (per L) c r x P.pos (by omega) (v.bd P) hx) ?_
  rintro _ rfl
  simp only [sOk, sat_bad, own_c0, own_cs, set_c0, set_cs, getS_c0, getS_cs, e_var, e_bor, e_iou, e_mov, e_frz, frz_some, e_cst, e_glb, e_flat, e_op1, e_op2, e_chn, chn_b, e_and, e_or, e_ife, lst_l, e_tup, e_lst, e_nil, e_cons, e_sub, e_key, e_slc, e_nop, e_rev, e_blt, e_call, it_l, it_t, e_comp, e_val, int_i, e_rng1, e_rng2, zip_l, zip_t, e_zip, e_pop, e_dsp, t_b, t_i, o_neg, o_not, o_add, o_sub, o_mul, o_fdv, o_mod, o_pow, o_lt, o_le, o_gt, o_ge, o_eq, o_ne, o_addL, o_inn, o_nin, o_isn, o_isnn, o_subL, o_subT, o_len, o_lenT, o_tupl, o_list, o_int, o_abs, o_max, o_min, o_gcd, o_sum, o_all, o_any, rb, eqvS, rf_nil, rf_none, rf_some, p_nil, p_none, p_some, a_nm, a_tup, a_nil, a_cons, s_skp, then_nx, then_rt, then_bk, then_ct, s_seq, s_asg, s_fre, s_par, ps_nil, ps_cons, s_exp, s_ret, s_rtn, s_ifs, s_lop, s_brk, s_cnt, s_nvr, s_app, s_set, s_setK, c_lst, ap_lst, si_lst, end_nx, end_rt, oo_nil, oo_0, oo_s, dk_c, dk_m, dk_d, dk_set, dk_can, dk_app, permL, List.filterMap_cons, List.filterMap_nil, List.getElem?_cons_zero, List.getElem?_cons_succ, List.cons_append, List.nil_append, List.append_nil, at0, at1, at2, isi_int, isi_bool, isi_tup, eqvI, Option.some.injEq, exists_eq_left', true_and, and_true, wipeR, Bool.not_true, Bool.not_false, forall_const, List.map_cons, List.map_nil, reduceCtorEq, false_implies, implies_true, true_implies, Bool.true_eq_false, Bool.false_eq_true, eq_self, o_slc, i2_nh]
theorem due_ok (h : IsOnOk (G i_is_on)) : DueOk (runDf G fu d_law_is_due) := by
  intro L c r x b P v r0 r1 hl hx hb
  have e : decide ((dot c x - r) % (per L : Int) = 0) = b := by
    cases b with
    | true => exact decide_eq_true (hb.mp rfl)
    | false => exact decide_eq_false fun q => absurd (hb.mpr q) (by decide)
  unfold TrueOk
  rw [s_run rfl]
  show (exS G fu d_law_is_due.body [some (0, stripe (per L) c r), some (0, .tuple (eI x)), some (0, .bool b)]).sat (endB [0, 0, 0] _)
  simp only [d_law_is_due, s_law_is_due_0, sOk, sat_bad, own_c0, own_cs, set_c0, set_cs, getS_c0, getS_cs, e_var, e_bor, e_iou, e_mov, e_frz, frz_some, e_cst, e_glb, e_flat, e_op1, e_op2, e_chn, chn_b, e_and, e_or, e_ife, lst_l, e_tup, e_lst, e_nil, e_cons, e_sub, e_key, e_slc, e_nop, e_rev, e_blt, e_call, it_l, it_t, e_comp, e_val, int_i, e_rng1, e_rng2, zip_l, zip_t, e_zip, e_pop, e_dsp, t_b, t_i, o_neg, o_not, o_add, o_sub, o_mul, o_fdv, o_mod, o_pow, o_lt, o_le, o_gt, o_ge, o_eq, o_ne, o_addL, o_inn, o_nin, o_isn, o_isnn, o_subL, o_subT, o_len, o_lenT, o_tupl, o_list, o_int, o_abs, o_max, o_min, o_gcd, o_sum, o_all, o_any, rb, eqvS, rf_nil, rf_none, rf_some, p_nil, p_none, p_some, a_nm, a_tup, a_nil, a_cons, s_skp, then_nx, then_rt, then_bk, then_ct, s_seq, s_asg, s_fre, s_par, ps_nil, ps_cons, s_exp, s_ret, s_rtn, s_ifs, s_lop, s_brk, s_cnt, s_nvr, s_app, s_set, s_setK, c_lst, ap_lst, si_lst, end_nx, end_rt, oo_nil, oo_0, oo_s, dk_c, dk_m, dk_d, dk_set, dk_can, dk_app, permL, List.filterMap_cons, List.filterMap_nil, List.getElem?_cons_zero, List.getElem?_cons_succ, List.cons_append, List.nil_append, List.append_nil, at0, at1, at2, isi_int, isi_bool, isi_tup, eqvI, Option.some.injEq, exists_eq_left', true_and, and_true, wipeR, Bool.not_true, Bool.not_false, forall_const, List.map_cons, List.map_nil, reduceCtorEq, false_implies, implies_true, true_implies, Bool.true_eq_false, Bool.false_eq_true, eq_self, o_slc, i2_nh]
  refine sat_imp (h L c r x P v r0 r1 hl hx) ?_
  rintro _ rfl
  simp only [sOk, sat_bad, own_c0, own_cs, set_c0, set_cs, getS_c0, getS_cs, e_var, e_bor, e_iou, e_mov, e_frz, frz_some, e_cst, e_glb, e_flat, e_op1, e_op2, e_chn, chn_b, e_and, e_or, e_ife, lst_l, e_tup, e_lst, e_nil, e_cons, e_sub, e_key, e_slc, e_nop, e_rev, e_blt, e_call, it_l, it_t, e_comp, e_val, int_i, e_rng1, e_rng2, zip_l, zip_t, e_zip, e_pop, e_dsp, t_b, t_i, o_neg, o_not, o_add, o_sub, o_mul, o_fdv, o_mod, o_pow, o_lt, o_le, o_gt, o_ge, o_eq, o_ne, o_addL, o_inn, o_nin, o_isn, o_isnn, o_subL, o_subT, o_len, o_lenT, o_tupl, o_list, o_int, o_abs, o_max, o_min, o_gcd, o_sum, o_all, o_any, rb, eqvS, rf_nil, rf_none, rf_some, p_nil, p_none, p_some, a_nm, a_tup, a_nil, a_cons, s_skp, then_nx, then_rt, then_bk, then_ct, s_seq, s_asg, s_fre, s_par, ps_nil, ps_cons, s_exp, s_ret, s_rtn, s_ifs, s_lop, s_brk, s_cnt, s_nvr, s_app, s_set, s_setK, c_lst, ap_lst, si_lst, end_nx, end_rt, oo_nil, oo_0, oo_s, dk_c, dk_m, dk_d, dk_set, dk_can, dk_app, permL, List.filterMap_cons, List.filterMap_nil, List.getElem?_cons_zero, List.getElem?_cons_succ, List.cons_append, List.nil_append, List.append_nil, at0, at1, at2, isi_int, isi_bool, isi_tup, eqvI, Option.some.injEq, exists_eq_left', true_and, and_true, wipeR, Bool.not_true, Bool.not_false, forall_const, List.map_cons, List.map_nil, reduceCtorEq, false_implies, implies_true, true_implies, Bool.true_eq_false, Bool.false_eq_true, eq_self, o_slc, i2_nh]
  refine sat_imp (h L c r x P v r0 r1 hl hx) ?_
  rintro _ rfl
  rw [e]
  simp only [sOk, sat_bad, own_c0, own_cs, set_c0, set_cs, getS_c0, getS_cs, e_var, e_bor, e_iou, e_mov, e_frz, frz_some, e_cst, e_glb, e_flat, e_op1, e_op2, e_chn, chn_b, e_and, e_or, e_ife, lst_l, e_tup, e_lst, e_nil, e_cons, e_sub, e_key, e_slc, e_nop, e_rev, e_blt, e_call, it_l, it_t, e_comp, e_val, int_i, e_rng1, e_rng2, zip_l, zip_t, e_zip, e_pop, e_dsp, t_b, t_i, o_neg, o_not, o_add, o_sub, o_mul, o_fdv, o_mod, o_pow, o_lt, o_le, o_gt, o_ge, o_eq, o_ne, o_addL, o_inn, o_nin, o_isn, o_isnn, o_subL, o_subT, o_len, o_lenT, o_tupl, o_list, o_int, o_abs, o_max, o_min, o_gcd, o_sum, o_all, o_any, rb, eqvS, rf_nil, rf_none, rf_some, p_nil, p_none, p_some, a_nm, a_tup, a_nil, a_cons, s_skp, then_nx, then_rt, then_bk, then_ct, s_seq, s_asg, s_fre, s_par, ps_nil, ps_cons, s_exp, s_ret, s_rtn, s_ifs, s_lop, s_brk, s_cnt, s_nvr, s_app, s_set, s_setK, c_lst, ap_lst, si_lst, end_nx, end_rt, oo_nil, oo_0, oo_s, dk_c, dk_m, dk_d, dk_set, dk_can, dk_app, permL, List.filterMap_cons, List.filterMap_nil, List.getElem?_cons_zero, List.getElem?_cons_succ, List.cons_append, List.nil_append, List.append_nil, at0, at1, at2, isi_int, isi_bool, isi_tup, eqvI, Option.some.injEq, exists_eq_left', true_and, and_true, wipeR, Bool.not_true, Bool.not_false, forall_const, List.map_cons, List.map_nil, reduceCtorEq, false_implies, implies_true, true_implies, Bool.true_eq_false, Bool.false_eq_true, eq_self, o_slc, i2_nh]
  exact ⟨shS, shS⟩
theorem along_ok : ProdAtOk (runDf G fu d_law_along) := by
  intro c x hl hc hx
  rw [s_run rfl]
  show (exS G fu d_law_along.body [some (0, .tuple (eI c)), some (0, .tuple (eI x)), none, none]).sat (endB [0, 0] _)
  simp only [d_law_along, s_law_along_0, sOk, sat_bad, own_c0, own_cs, set_c0, set_cs, getS_c0, getS_cs, e_var, e_bor, e_iou, e_mov, e_frz, frz_some, e_cst, e_glb, e_flat, e_op1, e_op2, e_chn, chn_b, e_and, e_or, e_ife, lst_l, e_tup, e_lst, e_nil, e_cons, e_sub, e_key, e_slc, e_nop, e_rev, e_blt, e_call, it_l, it_t, e_comp, e_val, int_i, e_rng1, e_rng2, zip_l, zip_t, e_zip, e_pop, e_dsp, t_b, t_i, o_neg, o_not, o_add, o_sub, o_mul, o_fdv, o_mod, o_pow, o_lt, o_le, o_gt, o_ge, o_eq, o_ne, o_addL, o_inn, o_nin, o_isn, o_isnn, o_subL, o_subT, o_len, o_lenT, o_tupl, o_list, o_int, o_abs, o_max, o_min, o_gcd, o_sum, o_all, o_any, rb, eqvS, rf_nil, rf_none, rf_some, p_nil, p_none, p_some, a_nm, a_tup, a_nil, a_cons, s_skp, then_nx, then_rt, then_bk, then_ct, s_seq, s_asg, s_fre, s_par, ps_nil, ps_cons, s_exp, s_ret, s_rtn, s_ifs, s_lop, s_brk, s_cnt, s_nvr, s_app, s_set, s_setK, c_lst, ap_lst, si_lst, end_nx, end_rt, oo_nil, oo_0, oo_s, dk_c, dk_m, dk_d, dk_set, dk_can, dk_app, permL, List.filterMap_cons, List.filterMap_nil, List.getElem?_cons_zero, List.getElem?_cons_succ, List.cons_append, List.nil_append, List.append_nil, at0, at1, at2, isi_int, isi_bool, isi_tup, eqvI, Option.some.injEq, exists_eq_left', true_and, and_true, wipeR, Bool.not_true, Bool.not_false, forall_const, List.map_cons, List.map_nil, reduceCtorEq, false_implies, implies_true, true_implies, Bool.true_eq_false, Bool.false_eq_true, eq_self, o_slc, i2_nh, zip_eI]
  refine ⟨⟨rfl, ?_⟩, ?_⟩
  · rw [List.length_map, List.length_zip]
    omega
  · refine cmap (fun p : Int × Int => .tuple [.int p.1, .int p.2]) (fun p => .int (p.1 * p.2)) (c.zip x) (fun p hp => ?_) ?_
    · obtain ⟨m1, m2⟩ := zip_mem hp
      simp only [compB_sat, sOk, sat_bad, own_c0, own_cs, set_c0, set_cs, getS_c0, getS_cs, e_var, e_bor, e_iou, e_mov, e_frz, frz_some, e_cst, e_glb, e_flat, e_op1, e_op2, e_chn, chn_b, e_and, e_or, e_ife, lst_l, e_tup, e_lst, e_nil, e_cons, e_sub, e_key, e_slc, e_nop, e_rev, e_blt, e_call, it_l, it_t, e_comp, e_val, int_i, e_rng1, e_rng2, zip_l, zip_t, e_zip, e_pop, e_dsp, t_b, t_i, o_neg, o_not, o_add, o_sub, o_mul, o_fdv, o_mod, o_pow, o_lt, o_le, o_gt, o_ge, o_eq, o_ne, o_addL, o_inn, o_nin, o_isn, o_isnn, o_subL, o_subT, o_len, o_lenT, o_tupl, o_list, o_int, o_abs, o_max, o_min, o_gcd, o_sum, o_all, o_any, rb, eqvS, rf_nil, rf_none, rf_some, p_nil, p_none, p_some, a_nm, a_tup, a_nil, a_cons, s_skp, then_nx, then_rt, then_bk, then_ct, s_seq, s_asg, s_fre, s_par, ps_nil, ps_cons, s_exp, s_ret, s_rtn, s_ifs, s_lop, s_brk, s_cnt, s_nvr, s_app, s_set, s_setK, c_lst, ap_lst, si_lst, end_nx, end_rt, oo_nil, oo_0, oo_s, dk_c, dk_m, dk_d, dk_set, dk_can, dk_app, permL, List.filterMap_cons, List.filterMap_nil, List.getElem?_cons_zero, List.getElem?_cons_succ, List.cons_append, List.nil_append, List.append_nil, at0, at1, at2, isi_int, isi_bool, isi_tup, eqvI, Option.some.injEq, exists_eq_left', true_and, and_true, wipeR, Bool.not_true, Bool.not_false, forall_const, List.map_cons, List.map_nil, reduceCtorEq, false_implies, implies_true, true_implies, Bool.true_eq_false, Bool.false_eq_true, eq_self, o_slc, i2_nh]
      exact mulX (hc _ m1) (hx _ m2)
    · rw [zipW]
      simp only [sOk, sat_bad, own_c0, own_cs, set_c0, set_cs, getS_c0, getS_cs, e_var, e_bor, e_iou, e_mov, e_frz, frz_some, e_cst, e_glb, e_flat, e_op1, e_op2, e_chn, chn_b, e_and, e_or, e_ife, lst_l, e_tup, e_lst, e_nil, e_cons, e_sub, e_key, e_slc, e_nop, e_rev, e_blt, e_call, it_l, it_t, e_comp, e_val, int_i, e_rng1, e_rng2, zip_l, zip_t, e_zip, e_pop, e_dsp, t_b, t_i, o_neg, o_not, o_add, o_sub, o_mul, o_fdv, o_mod, o_pow, o_lt, o_le, o_gt, o_ge, o_eq, o_ne, o_addL, o_inn, o_nin, o_isn, o_isnn, o_subL, o_subT, o_len, o_lenT, o_tupl, o_list, o_int, o_abs, o_max, o_min, o_gcd, o_sum, o_all, o_any, rb, eqvS, rf_nil, rf_none, rf_some, p_nil, p_none, p_some, a_nm, a_tup, a_nil, a_cons, s_skp, then_nx, then_rt, then_bk, then_ct, s_seq, s_asg, s_fre, s_par, ps_nil, ps_cons, s_exp, s_ret, s_rtn, s_ifs, s_lop, s_brk, s_cnt, s_nvr, s_app, s_set, s_setK, c_lst, ap_lst, si_lst, end_nx, end_rt, oo_nil, oo_0, oo_s, dk_c, dk_m, dk_d, dk_set, dk_can, dk_app, permL, List.filterMap_cons, List.filterMap_nil, List.getElem?_cons_zero, List.getElem?_cons_succ, List.cons_append, List.nil_append, List.append_nil, at0, at1, at2, isi_int, isi_bool, isi_tup, eqvI, Option.some.injEq, exists_eq_left', true_and, and_true, wipeR, Bool.not_true, Bool.not_false, forall_const, List.map_cons, List.map_nil, reduceCtorEq, false_implies, implies_true, true_implies, Bool.true_eq_false, Bool.false_eq_true, eq_self, o_slc, i2_nh]
      rfl
theorem moved_ok : MovedOk (runDf G fu d_law_moved) := by
  intro x t k hl ht hk
  rw [s_run rfl]
  show (exS G fu d_law_moved.body [some (0, .tuple (eI x)), some (0, .tuple (eI t)), some (0, .int k), none, none]).sat (endB [0, 0, 0] _)
  simp only [d_law_moved, s_law_moved_0, sOk, sat_bad, own_c0, own_cs, set_c0, set_cs, getS_c0, getS_cs, e_var, e_bor, e_iou, e_mov, e_frz, frz_some, e_cst, e_glb, e_flat, e_op1, e_op2, e_chn, chn_b, e_and, e_or, e_ife, lst_l, e_tup, e_lst, e_nil, e_cons, e_sub, e_key, e_slc, e_nop, e_rev, e_blt, e_call, it_l, it_t, e_comp, e_val, int_i, e_rng1, e_rng2, zip_l, zip_t, e_zip, e_pop, e_dsp, t_b, t_i, o_neg, o_not, o_add, o_sub, o_mul, o_fdv, o_mod, o_pow, o_lt, o_le, o_gt, o_ge, o_eq, o_ne, o_addL, o_inn, o_nin, o_isn, o_isnn, o_subL, o_subT, o_len, o_lenT, o_tupl, o_list, o_int, o_abs, o_max, o_min, o_gcd, o_sum, o_all, o_any, rb, eqvS, rf_nil, rf_none, rf_some, p_nil, p_none, p_some, a_nm, a_tup, a_nil, a_cons, s_skp, then_nx, then_rt, then_bk, then_ct, s_seq, s_asg, s_fre, s_par, ps_nil, ps_cons, s_exp, s_ret, s_rtn, s_ifs, s_lop, s_brk, s_cnt, s_nvr, s_app, s_set, s_setK, c_lst, ap_lst, si_lst, end_nx, end_rt, oo_nil, oo_0, oo_s, dk_c, dk_m, dk_d, dk_set, dk_can, dk_app, permL, List.filterMap_cons, List.filterMap_nil, List.getElem?_cons_zero, List.getElem?_cons_succ, List.cons_append, List.nil_append, List.append_nil, at0, at1, at2, isi_int, isi_bool, isi_tup, eqvI, Option.some.injEq, exists_eq_left', true_and, and_true, wipeR, Bool.not_true, Bool.not_false, forall_const, List.map_cons, List.map_nil, reduceCtorEq, false_implies, implies_true, true_implies, Bool.true_eq_false, Bool.false_eq_true, eq_self, o_slc, i2_nh, zip_eI]
  refine ⟨⟨rfl, ?_⟩, ?_⟩
  · rw [List.length_map, List.length_zip]
    omega
  · refine cmap (fun p : Int × Int => .tuple [.int p.1, .int p.2]) (fun p => .int (p.1 + k * p.2)) (x.zip t) (fun p hp => ?_) ?_
    · obtain ⟨m1, m2⟩ := zip_mem hp
      simp only [compB_sat, sOk, sat_bad, own_c0, own_cs, set_c0, set_cs, getS_c0, getS_cs, e_var, e_bor, e_iou, e_mov, e_frz, frz_some, e_cst, e_glb, e_flat, e_op1, e_op2, e_chn, chn_b, e_and, e_or, e_ife, lst_l, e_tup, e_lst, e_nil, e_cons, e_sub, e_key, e_slc, e_nop, e_rev, e_blt, e_call, it_l, it_t, e_comp, e_val, int_i, e_rng1, e_rng2, zip_l, zip_t, e_zip, e_pop, e_dsp, t_b, t_i, o_neg, o_not, o_add, o_sub, o_mul, o_fdv, o_mod, o_pow, o_lt, o_le, o_gt, o_ge, o_eq, o_ne, o_addL, o_inn, o_nin, o_isn, o_isnn, o_subL, o_subT, o_len, o_lenT, o_tupl, o_list, o_int, o_abs, o_max, o_min, o_gcd, o_sum, o_all, o_any, rb, eqvS, rf_nil, rf_none, rf_some, p_nil, p_none, p_some, a_nm, a_tup, a_nil, a_cons, s_skp, then_nx, then_rt, then_bk, then_ct, s_seq, s_asg, s_fre, s_par, ps_nil, ps_cons, s_exp, s_ret, s_rtn, s_ifs, s_lop, s_brk, s_cnt, s_nvr, s_app, s_set, s_setK, c_lst, ap_lst, si_lst, end_nx, end_rt, oo_nil, oo_0, oo_s, dk_c, dk_m, dk_d, dk_set, dk_can, dk_app, permL, List.filterMap_cons, List.filterMap_nil, List.getElem?_cons_zero, List.getElem?_cons_succ, List.cons_append, List.nil_append, List.append_nil, at0, at1, at2, isi_int, isi_bool, isi_tup, eqvI, Option.some.injEq, exists_eq_left', true_and, and_true, wipeR, Bool.not_true, Bool.not_false, forall_const, List.map_cons, List.map_nil, reduceCtorEq, false_implies, implies_true, true_implies, Bool.true_eq_false, Bool.false_eq_true, eq_self, o_slc, i2_nh]
      exact mulX hk (ht _ m2)
    · rw [zipM]
theorem common_ok (hfu : 10 ^ 700 ≤ fu) : CommonOk (runDf G fu d_law_common) := by
  intro a s ha hs
  rw [s_run rfl]
  show (exS G fu d_law_common.body [some (0, .int a), some (0, .int s)]).sat (endB [0, 0] _)
  have e1 : (if (a : Int) < 0 then -(a : Int) else (a : Int)) = (a : Int) := if_neg (by omega)
  have e2 : (if s < 0 then -s else s) = ((s.natAbs : Nat) : Int) := by split <;> omega
  simp only [d_law_common, s_law_common_0, sOk, sat_bad, own_c0, own_cs, set_c0, set_cs, getS_c0, getS_cs, e_var, e_bor, e_iou, e_mov, e_frz, frz_some, e_cst, e_glb, e_flat, e_op1, e_op2, e_chn, chn_b, e_and, e_or, e_ife, lst_l, e_tup, e_lst, e_nil, e_cons, e_sub, e_key, e_slc, e_nop, e_rev, e_blt, e_call, it_l, it_t, e_comp, e_val, int_i, e_rng1, e_rng2, zip_l, zip_t, e_zip, e_pop, e_dsp, t_b, t_i, o_neg, o_not, o_add, o_sub, o_mul, o_fdv, o_mod, o_pow, o_lt, o_le, o_gt, o_ge, o_eq, o_ne, o_addL, o_inn, o_nin, o_isn, o_isnn, o_subL, o_subT, o_len, o_lenT, o_tupl, o_list, o_int, o_abs, o_max, o_min, o_gcd, o_sum, o_all, o_any, rb, eqvS, rf_nil, rf_none, rf_some, p_nil, p_none, p_some, a_nm, a_tup, a_nil, a_cons, s_skp, then_nx, then_rt, then_bk, then_ct, s_seq, s_asg, s_fre, s_par, ps_nil, ps_cons, s_exp, s_ret, s_rtn, s_ifs, s_lop, s_brk, s_cnt, s_nvr, s_app, s_set, s_setK, c_lst, ap_lst, si_lst, end_nx, end_rt, oo_nil, oo_0, oo_s, dk_c, dk_m, dk_d, dk_set, dk_can, dk_app, permL, List.filterMap_cons, List.filterMap_nil, List.getElem?_cons_zero, List.getElem?_cons_succ, List.cons_append, List.nil_append, List.append_nil, at0, at1, at2, isi_int, isi_bool, isi_tup, eqvI, Option.some.injEq, exists_eq_left', true_and, and_true, wipeR, Bool.not_true, Bool.not_false, forall_const, List.map_cons, List.map_nil, reduceCtorEq, false_implies, implies_true, true_implies, Bool.true_eq_false, Bool.false_eq_true, eq_self, o_slc, i2_nh, e1, e2]
  simp only [s_law_common_1, s_whl]
  refine whl_inv (I := fun j ρ => ∃ u : Nat, ρ = [some (0, .int u), some (0, .int (j : Nat))] ∧ Nat.gcd u j = Nat.gcd a s.natAbs) ?_ fu s.natAbs ⟨a, rfl, rfl⟩ (by omega)
  rintro j _ ⟨u, rfl, hg⟩
  simp only [sOk, sat_bad, own_c0, own_cs, set_c0, set_cs, getS_c0, getS_cs, e_var, e_bor, e_iou, e_mov, e_frz, frz_some, e_cst, e_glb, e_flat, e_op1, e_op2, e_chn, chn_b, e_and, e_or, e_ife, lst_l, e_tup, e_lst, e_nil, e_cons, e_sub, e_key, e_slc, e_nop, e_rev, e_blt, e_call, it_l, it_t, e_comp, e_val, int_i, e_rng1, e_rng2, zip_l, zip_t, e_zip, e_pop, e_dsp, t_b, t_i, o_neg, o_not, o_add, o_sub, o_mul, o_fdv, o_mod, o_pow, o_lt, o_le, o_gt, o_ge, o_eq, o_ne, o_addL, o_inn, o_nin, o_isn, o_isnn, o_subL, o_subT, o_len, o_lenT, o_tupl, o_list, o_int, o_abs, o_max, o_min, o_gcd, o_sum, o_all, o_any, rb, eqvS, rf_nil, rf_none, rf_some, p_nil, p_none, p_some, a_nm, a_tup, a_nil, a_cons, s_skp, then_nx, then_rt, then_bk, then_ct, s_seq, s_asg, s_fre, s_par, ps_nil, ps_cons, s_exp, s_ret, s_rtn, s_ifs, s_lop, s_brk, s_cnt, s_nvr, s_app, s_set, s_setK, c_lst, ap_lst, si_lst, end_nx, end_rt, oo_nil, oo_0, oo_s, dk_c, dk_m, dk_d, dk_set, dk_can, dk_app, permL, List.filterMap_cons, List.filterMap_nil, List.getElem?_cons_zero, List.getElem?_cons_succ, List.cons_append, List.nil_append, List.append_nil, at0, at1, at2, isi_int, isi_bool, isi_tup, eqvI, Option.some.injEq, exists_eq_left', true_and, and_true, wipeR, Bool.not_true, Bool.not_false, forall_const, List.map_cons, List.map_nil, reduceCtorEq, false_implies, implies_true, true_implies, Bool.true_eq_false, Bool.false_eq_true, eq_self, o_slc, i2_nh]
  refine ⟨fun hc => ?_, fun hc => ?_⟩
  · have hc : (0 : Int) < (j : Int) := of_decide_eq_true hc
    simp only [b_law_common_1b, s_law_common_1b_0, sOk, sat_bad, own_c0, own_cs, set_c0, set_cs, getS_c0, getS_cs, e_var, e_bor, e_iou, e_mov, e_frz, frz_some, e_cst, e_glb, e_flat, e_op1, e_op2, e_chn, chn_b, e_and, e_or, e_ife, lst_l, e_tup, e_lst, e_nil, e_cons, e_sub, e_key, e_slc, e_nop, e_rev, e_blt, e_call, it_l, it_t, e_comp, e_val, int_i, e_rng1, e_rng2, zip_l, zip_t, e_zip, e_pop, e_dsp, t_b, t_i, o_neg, o_not, o_add, o_sub, o_mul, o_fdv, o_mod, o_pow, o_lt, o_le, o_gt, o_ge, o_eq, o_ne, o_addL, o_inn, o_nin, o_isn, o_isnn, o_subL, o_subT, o_len, o_lenT, o_tupl, o_list, o_int, o_abs, o_max, o_min, o_gcd, o_sum, o_all, o_any, rb, eqvS, rf_nil, rf_none, rf_some, p_nil, p_none, p_some, a_nm, a_tup, a_nil, a_cons, s_skp, then_nx, then_rt, then_bk, then_ct, s_seq, s_asg, s_fre, s_par, ps_nil, ps_cons, s_exp, s_ret, s_rtn, s_ifs, s_lop, s_brk, s_cnt, s_nvr, s_app, s_set, s_setK, c_lst, ap_lst, si_lst, end_nx, end_rt, oo_nil, oo_0, oo_s, dk_c, dk_m, dk_d, dk_set, dk_can, dk_app, permL, List.filterMap_cons, List.filterMap_nil, List.getElem?_cons_zero, List.getElem?_cons_succ, List.cons_append, List.nil_append, List.append_nil, at0, at1, at2, isi_int, isi_bool, isi_tup, eqvI, Option.some.injEq, exists_eq_left', true_and, and_true, wipeR, Bool.not_true, Bool.not_false, forall_const, List.map_cons, List.map_nil, reduceCtorEq, false_implies, implies_true, true_implies, Bool.true_eq_false, Bool.false_eq_true, eq_self, o_slc, i2_nh]
    refine ⟨hc, .inl trivial, u % j, Nat.mod_lt _ (by omega), j, ?_, ?_⟩
    · rw [Int.natCast_emod]
    · rw [Nat.gcd_comm, ← Nat.gcd_rec, Nat.gcd_comm]
      exact hg
  · have hc : ¬ (0 : Int) < (j : Int) := of_decide_eq_false hc
    have : j = 0 := by omega
    subst this
    rw [Nat.gcd_zero_right] at hg
    simp only [s_law_common_2, sOk, sat_bad, own_c0, own_cs, set_c0, set_cs, getS_c0, getS_cs, e_var, e_bor, e_iou, e_mov, e_frz, frz_some, e_cst, e_glb, e_flat, e_op1, e_op2, e_chn, chn_b, e_and, e_or, e_ife, lst_l, e_tup, e_lst, e_nil, e_cons, e_sub, e_key, e_slc, e_nop, e_rev, e_blt, e_call, it_l, it_t, e_comp, e_val, int_i, e_rng1, e_rng2, zip_l, zip_t, e_zip, e_pop, e_dsp, t_b, t_i, o_neg, o_not, o_add, o_sub, o_mul, o_fdv, o_mod, o_pow, o_lt, o_le, o_gt, o_ge, o_eq, o_ne, o_addL, o_inn, o_nin, o_isn, o_isnn, o_subL, o_subT, o_len, o_lenT, o_tupl, o_list, o_int, o_abs, o_max, o_min, o_gcd, o_sum, o_all, o_any, rb, eqvS, rf_nil, rf_none, rf_some, p_nil, p_none, p_some, a_nm, a_tup, a_nil, a_cons, s_skp, then_nx, then_rt, then_bk, then_ct, s_seq, s_asg, s_fre, s_par, ps_nil, ps_cons, s_exp, s_ret, s_rtn, s_ifs, s_lop, s_brk, s_cnt, s_nvr, s_app, s_set, s_setK, c_lst, ap_lst, si_lst, end_nx, end_rt, oo_nil, oo_0, oo_s, dk_c, dk_m, dk_d, dk_set, dk_can, dk_app, permL, List.filterMap_cons, List.filterMap_nil, List.getElem?_cons_zero, List.getElem?_cons_succ, List.cons_append, List.nil_append, List.append_nil, at0, at1, at2, isi_int, isi_bool, isi_tup, eqvI, Option.some.injEq, exists_eq_left', true_and, and_true, wipeR, Bool.not_true, Bool.not_false, forall_const, List.map_cons, List.map_nil, reduceCtorEq, false_implies, implies_true, true_implies, Bool.true_eq_false, Bool.false_eq_true, eq_self, o_slc, i2_nh, hg]
end
end K03

set_option Elab.async false
set_option linter.all false
set_option maxRecDepth 100000
set_option maxHeartbeats 2000000
set_option exponentiation.threshold 10000
namespace K03
open PySem Mini Mini.W
section
variable {G : Defs} {fu : Nat}
theorem deck_ok : DeckOk (runDf G fu d_law_deck) := by
  intro ns hl
  have hL : LIM = 1000000 := rfl
  obtain ⟨l2, e2, h2⟩ := cut_eI ns none (some 63)
  rw [s_run rfl]
  show (exS G fu d_law_deck.body [some (0, .list (eI ns)), none, none]).sat (endB [0] _)
  simp only [d_law_deck, s_law_deck_0, sOk, sat_bad, own_c0, own_cs, set_c0, set_cs, getS_c0, getS_cs, e_var, e_bor, e_iou, e_mov, e_frz, frz_some, e_cst, e_glb, e_flat, e_op1, e_op2, e_chn, chn_b, e_and, e_or, e_ife, lst_l, e_tup, e_lst, e_nil, e_cons, e_sub, e_key, e_slc, e_nop, e_rev, e_blt, e_call, it_l, it_t, e_comp, e_val, int_i, e_rng1, e_rng2, zip_l, zip_t, e_zip, e_pop, e_dsp, t_b, t_i, o_neg, o_not, o_add, o_sub, o_mul, o_fdv, o_mod, o_pow, o_lt, o_le, o_gt, o_ge, o_eq, o_ne, o_addL, o_inn, o_nin, o_isn, o_isnn, o_subL, o_subT, o_len, o_lenT, o_tupl, o_list, o_int, o_abs, o_max, o_min, o_gcd, o_sum, o_all, o_any, rb, eqvS, rf_nil, rf_none, rf_some, p_nil, p_none, p_some, a_nm, a_tup, a_nil, a_cons, s_skp, then_nx, then_rt, then_bk, then_ct, s_seq, s_asg, s_fre, s_par, ps_nil, ps_cons, s_exp, s_ret, s_rtn, s_ifs, s_lop, s_brk, s_cnt, s_nvr, s_app, s_set, s_setK, c_lst, ap_lst, si_lst, end_nx, end_rt, oo_nil, oo_0, oo_s, dk_c, dk_m, dk_d, dk_set, dk_can, dk_app, permL, List.filterMap_cons, List.filterMap_nil, List.getElem?_cons_zero, List.getElem?_cons_succ, List.cons_append, List.nil_append, List.append_nil, at0, at1, at2, isi_int, isi_bool, isi_tup, eqvI, Option.some.injEq, exists_eq_left', true_and, and_true, wipeR, Bool.not_true, Bool.not_false, forall_const, List.map_cons, List.map_nil, reduceCtorEq, false_implies, implies_true, true_implies, Bool.true_eq_false, Bool.false_eq_true, eq_self, o_slc, i2_nh]
  simp only [s_law_deck_1, sOk, sat_bad, own_c0, own_cs, set_c0, set_cs, getS_c0, getS_cs, e_var, e_bor, e_iou, e_mov, e_frz, frz_some, e_cst, e_glb, e_flat, e_op1, e_op2, e_chn, chn_b, e_and, e_or, e_ife, lst_l, e_tup, e_lst, e_nil, e_cons, e_sub, e_key, e_slc, e_nop, e_rev, e_blt, e_call, it_l, it_t, e_comp, e_val, int_i, e_rng1, e_rng2, zip_l, zip_t, e_zip, e_pop, e_dsp, t_b, t_i, o_neg, o_not, o_add, o_sub, o_mul, o_fdv, o_mod, o_pow, o_lt, o_le, o_gt, o_ge, o_eq, o_ne, o_addL, o_inn, o_nin, o_isn, o_isnn, o_subL, o_subT, o_len, o_lenT, o_tupl, o_list, o_int, o_abs, o_max, o_min, o_gcd, o_sum, o_all, o_any, rb, eqvS, rf_nil, rf_none, rf_some, p_nil, p_none, p_some, a_nm, a_tup, a_nil, a_cons, s_skp, then_nx, then_rt, then_bk, then_ct, s_seq, s_asg, s_fre, s_par, ps_nil, ps_cons, s_exp, s_ret, s_rtn, s_ifs, s_lop, s_brk, s_cnt, s_nvr, s_app, s_set, s_setK, c_lst, ap_lst, si_lst, end_nx, end_rt, oo_nil, oo_0, oo_s, dk_c, dk_m, dk_d, dk_set, dk_can, dk_app, permL, List.filterMap_cons, List.filterMap_nil, List.getElem?_cons_zero, List.getElem?_cons_succ, List.cons_append, List.nil_append, List.append_nil, at0, at1, at2, isi_int, isi_bool, isi_tup, eqvI, Option.some.injEq, exists_eq_left', true_and, and_true, wipeR, Bool.not_true, Bool.not_false, forall_const, List.map_cons, List.map_nil, reduceCtorEq, false_implies, implies_true, true_implies, Bool.true_eq_false, Bool.false_eq_true, eq_self, o_slc, i2_nh, e2]
  refine loop_inv (I := fun i ρ => ∃ (m : Int) (s : Slot), ρ = [some (0, .list (eI ns)), some (0, .int m), s] ∧ 0 ≤ m ∧ m < 2147483648) (eI l2) 0 (fun i d ρ hd hI => ?_) ⟨_, none, rfl, by omega, by omega⟩ (fun ρ' hI => ?_)
  · obtain ⟨m, s, rfl, m0, m1⟩ := hI
    obtain ⟨x, hx, rfl⟩ := List.mem_map.mp (List.mem_of_getElem? hd)
    simp only [loopB_sat, b_law_deck_1b, s_law_deck_1b_0, sOk, sat_bad, own_c0, own_cs, set_c0, set_cs, getS_c0, getS_cs, e_var, e_bor, e_iou, e_mov, e_frz, frz_some, e_cst, e_glb, e_flat, e_op1, e_op2, e_chn, chn_b, e_and, e_or, e_ife, lst_l, e_tup, e_lst, e_nil, e_cons, e_sub, e_key, e_slc, e_nop, e_rev, e_blt, e_call, it_l, it_t, e_comp, e_val, int_i, e_rng1, e_rng2, zip_l, zip_t, e_zip, e_pop, e_dsp, t_b, t_i, o_neg, o_not, o_add, o_sub, o_mul, o_fdv, o_mod, o_pow, o_lt, o_le, o_gt, o_ge, o_eq, o_ne, o_addL, o_inn, o_nin, o_isn, o_isnn, o_subL, o_subT, o_len, o_lenT, o_tupl, o_list, o_int, o_abs, o_max, o_min, o_gcd, o_sum, o_all, o_any, rb, eqvS, rf_nil, rf_none, rf_some, p_nil, p_none, p_some, a_nm, a_tup, a_nil, a_cons, s_skp, then_nx, then_rt, then_bk, then_ct, s_seq, s_asg, s_fre, s_par, ps_nil, ps_cons, s_exp, s_ret, s_rtn, s_ifs, s_lop, s_brk, s_cnt, s_nvr, s_app, s_set, s_setK, c_lst, ap_lst, si_lst, end_nx, end_rt, oo_nil, oo_0, oo_s, dk_c, dk_m, dk_d, dk_set, dk_can, dk_app, permL, List.filterMap_cons, List.filterMap_nil, List.getElem?_cons_zero, List.getElem?_cons_succ, List.cons_append, List.nil_append, List.append_nil, at0, at1, at2, isi_int, isi_bool, isi_tup, eqvI, Option.some.injEq, exists_eq_left', true_and, and_true, wipeR, Bool.not_true, Bool.not_false, forall_const, List.map_cons, List.map_nil, reduceCtorEq, false_implies, implies_true, true_implies, Bool.true_eq_false, Bool.false_eq_true, eq_self, o_slc, i2_nh]
    exact ⟨mulOk_of (by omega) (by omega), by omega, by omega, .inl trivial, _, _, rfl, by omega, by omega⟩
  · obtain ⟨m, s, rfl, m0, m1⟩ := hI
    simp only [then_nx, s_law_deck_2, sOk, sat_bad, own_c0, own_cs, set_c0, set_cs, getS_c0, getS_cs, e_var, e_bor, e_iou, e_mov, e_frz, frz_some, e_cst, e_glb, e_flat, e_op1, e_op2, e_chn, chn_b, e_and, e_or, e_ife, lst_l, e_tup, e_lst, e_nil, e_cons, e_sub, e_key, e_slc, e_nop, e_rev, e_blt, e_call, it_l, it_t, e_comp, e_val, int_i, e_rng1, e_rng2, zip_l, zip_t, e_zip, e_pop, e_dsp, t_b, t_i, o_neg, o_not, o_add, o_sub, o_mul, o_fdv, o_mod, o_pow, o_lt, o_le, o_gt, o_ge, o_eq, o_ne, o_addL, o_inn, o_nin, o_isn, o_isnn, o_subL, o_subT, o_len, o_lenT, o_tupl, o_list, o_int, o_abs, o_max, o_min, o_gcd, o_sum, o_all, o_any, rb, eqvS, rf_nil, rf_none, rf_some, p_nil, p_none, p_some, a_nm, a_tup, a_nil, a_cons, s_skp, then_nx, then_rt, then_bk, then_ct, s_seq, s_asg, s_fre, s_par, ps_nil, ps_cons, s_exp, s_ret, s_rtn, s_ifs, s_lop, s_brk, s_cnt, s_nvr, s_app, s_set, s_setK, c_lst, ap_lst, si_lst, end_nx, end_rt, oo_nil, oo_0, oo_s, dk_c, dk_m, dk_d, dk_set, dk_can, dk_app, permL, List.filterMap_cons, List.filterMap_nil, List.getElem?_cons_zero, List.getElem?_cons_succ, List.cons_append, List.nil_append, List.append_nil, at0, at1, at2, isi_int, isi_bool, isi_tup, eqvI, Option.some.injEq, exists_eq_left', true_and, and_true, wipeR, Bool.not_true, Bool.not_false, forall_const, List.map_cons, List.map_nil, reduceCtorEq, false_implies, implies_true, true_implies, Bool.true_eq_false, Bool.false_eq_true, eq_self, o_slc, i2_nh, e2]
    refine ⟨rfl, rfl, _, rfl, l2.reverse, m, 0, ?_, by rw [List.length_reverse]; omega, m0, m1, by omega, by omega⟩
    unfold deckL
    rw [List.map_reverse]
    rfl
theorem pr_of {x : PyData} (h : x ∈ eN [2, 2, 3, 3, 5, 7, 11, 13, 17, 19, 23, 29]) : ∃ p : Nat, p ∈ PR ∧ x = .int (p : Int) := by
  obtain ⟨n, hn, rfl⟩ := List.mem_map.mp h
  have key : ∀ n ∈ [2, 2, 3, 3, 5, 7, 11, 13, 17, 19, 23, 29], n ∈ PR := by decide
  exact ⟨n, key n hn, rfl⟩
theorem powers_ok (hD : DrawOk (G i_law_draw)) (hP : PickOk (G i_law_pick)) : PowersOk (runDf G fu d_law_powers) := by
  intro b d hd hb
  have hL : LIM = 1000000 := rfl
  rw [s_run rfl]
  show (exS G fu d_law_powers.body [some (2, d), some (0, .int (10 ^ 40)), some (0, .int 1000), none, none, none, none, none, none, none, none, none]).sat (endB [2, 0, 0] _)
  simp only [d_law_powers, s_law_powers_0, sOk, sat_bad, own_c0, own_cs, set_c0, set_cs, getS_c0, getS_cs, e_var, e_bor, e_iou, e_mov, e_frz, frz_some, e_cst, e_glb, e_flat, e_op1, e_op2, e_chn, chn_b, e_and, e_or, e_ife, lst_l, e_tup, e_lst, e_nil, e_cons, e_sub, e_key, e_slc, e_nop, e_rev, e_blt, e_call, it_l, it_t, e_comp, e_val, int_i, e_rng1, e_rng2, zip_l, zip_t, e_zip, e_pop, e_dsp, t_b, t_i, o_neg, o_not, o_add, o_sub, o_mul, o_fdv, o_mod, o_pow, o_lt, o_le, o_gt, o_ge, o_eq, o_ne, o_addL, o_inn, o_nin, o_isn, o_isnn, o_subL, o_subT, o_len, o_lenT, o_tupl, o_list, o_int, o_abs, o_max, o_min, o_gcd, o_sum, o_all, o_any, rb, eqvS, rf_nil, rf_none, rf_some, p_nil, p_none, p_some, a_nm, a_tup, a_nil, a_cons, s_skp, then_nx, then_rt, then_bk, then_ct, s_seq, s_asg, s_fre, s_par, ps_nil, ps_cons, s_exp, s_ret, s_rtn, s_ifs, s_lop, s_brk, s_cnt, s_nvr, s_app, s_set, s_setK, c_lst, ap_lst, si_lst, end_nx, end_rt, oo_nil, oo_0, oo_s, dk_c, dk_m, dk_d, dk_set, dk_can, dk_app, permL, List.filterMap_cons, List.filterMap_nil, List.getElem?_cons_zero, List.getElem?_cons_succ, List.cons_append, List.nil_append, List.append_nil, at0, at1, at2, isi_int, isi_bool, isi_tup, eqvI, Option.some.injEq, exists_eq_left', true_and, and_true, wipeR, Bool.not_true, Bool.not_false, forall_const, List.map_cons, List.map_nil, reduceCtorEq, false_implies, implies_true, true_implies, Bool.true_eq_false, Bool.false_eq_true, eq_self, o_slc, i2_nh]
  simp only [s_law_powers_1, sOk, sat_bad, own_c0, own_cs, set_c0, set_cs, getS_c0, getS_cs, e_var, e_bor, e_iou, e_mov, e_frz, frz_some, e_cst, e_glb, e_flat, e_op1, e_op2, e_chn, chn_b, e_and, e_or, e_ife, lst_l, e_tup, e_lst, e_nil, e_cons, e_sub, e_key, e_slc, e_nop, e_rev, e_blt, e_call, it_l, it_t, e_comp, e_val, int_i, e_rng1, e_rng2, zip_l, zip_t, e_zip, e_pop, e_dsp, t_b, t_i, o_neg, o_not, o_add, o_sub, o_mul, o_fdv, o_mod, o_pow, o_lt, o_le, o_gt, o_ge, o_eq, o_ne, o_addL, o_inn, o_nin, o_isn, o_isnn, o_subL, o_subT, o_len, o_lenT, o_tupl, o_list, o_int, o_abs, o_max, o_min, o_gcd, o_sum, o_all, o_any, rb, eqvS, rf_nil, rf_none, rf_some, p_nil, p_none, p_some, a_nm, a_tup, a_nil, a_cons, s_skp, then_nx, then_rt, then_bk, then_ct, s_seq, s_asg, s_fre, s_par, ps_nil, ps_cons, s_exp, s_ret, s_rtn, s_ifs, s_lop, s_brk, s_cnt, s_nvr, s_app, s_set, s_setK, c_lst, ap_lst, si_lst, end_nx, end_rt, oo_nil, oo_0, oo_s, dk_c, dk_m, dk_d, dk_set, dk_can, dk_app, permL, List.filterMap_cons, List.filterMap_nil, List.getElem?_cons_zero, List.getElem?_cons_succ, List.cons_append, List.nil_append, List.append_nil, at0, at1, at2, isi_int, isi_bool, isi_tup, eqvI, Option.some.injEq, exists_eq_left', true_and, and_true, wipeR, Bool.not_true, Bool.not_false, forall_const, List.map_cons, List.map_nil, reduceCtorEq, false_implies, implies_true, true_implies, Bool.true_eq_false, Bool.false_eq_true, eq_self, o_slc, i2_nh]
  refine sat_imp (hD b d 4 hd (by omega) (by omega) (by omega)) ?_
  rintro _ ⟨way, d1, rfl, w0, w1, hd1⟩
  simp only [sOk, sat_bad, own_c0, own_cs, set_c0, set_cs, getS_c0, getS_cs, e_var, e_bor, e_iou, e_mov, e_frz, frz_some, e_cst, e_glb, e_flat, e_op1, e_op2, e_chn, chn_b, e_and, e_or, e_ife, lst_l, e_tup, e_lst, e_nil, e_cons, e_sub, e_key, e_slc, e_nop, e_rev, e_blt, e_call, it_l, it_t, e_comp, e_val, int_i, e_rng1, e_rng2, zip_l, zip_t, e_zip, e_pop, e_dsp, t_b, t_i, o_neg, o_not, o_add, o_sub, o_mul, o_fdv, o_mod, o_pow, o_lt, o_le, o_gt, o_ge, o_eq, o_ne, o_addL, o_inn, o_nin, o_isn, o_isnn, o_subL, o_subT, o_len, o_lenT, o_tupl, o_list, o_int, o_abs, o_max, o_min, o_gcd, o_sum, o_all, o_any, rb, eqvS, rf_nil, rf_none, rf_some, p_nil, p_none, p_some, a_nm, a_tup, a_nil, a_cons, s_skp, then_nx, then_rt, then_bk, then_ct, s_seq, s_asg, s_fre, s_par, ps_nil, ps_cons, s_exp, s_ret, s_rtn, s_ifs, s_lop, s_brk, s_cnt, s_nvr, s_app, s_set, s_setK, c_lst, ap_lst, si_lst, end_nx, end_rt, oo_nil, oo_0, oo_s, dk_c, dk_m, dk_d, dk_set, dk_can, dk_app, permL, List.filterMap_cons, List.filterMap_nil, List.getElem?_cons_zero, List.getElem?_cons_succ, List.cons_append, List.nil_append, List.append_nil, at0, at1, at2, isi_int, isi_bool, isi_tup, eqvI, Option.some.injEq, exists_eq_left', true_and, and_true, wipeR, Bool.not_true, Bool.not_false, forall_const, List.map_cons, List.map_nil, reduceCtorEq, false_implies, implies_true, true_implies, Bool.true_eq_false, Bool.false_eq_true, eq_self, o_slc, i2_nh]
  simp only [s_law_powers_2, sOk, sat_bad, own_c0, own_cs, set_c0, set_cs, getS_c0, getS_cs, e_var, e_bor, e_iou, e_mov, e_frz, frz_some, e_cst, e_glb, e_flat, e_op1, e_op2, e_chn, chn_b, e_and, e_or, e_ife, lst_l, e_tup, e_lst, e_nil, e_cons, e_sub, e_key, e_slc, e_nop, e_rev, e_blt, e_call, it_l, it_t, e_comp, e_val, int_i, e_rng1, e_rng2, zip_l, zip_t, e_zip, e_pop, e_dsp, t_b, t_i, o_neg, o_not, o_add, o_sub, o_mul, o_fdv, o_mod, o_pow, o_lt, o_le, o_gt, o_ge, o_eq, o_ne, o_addL, o_inn, o_nin, o_isn, o_isnn, o_subL, o_subT, o_len, o_lenT, o_tupl, o_list, o_int, o_abs, o_max, o_min, o_gcd, o_sum, o_all, o_any, rb, eqvS, rf_nil, rf_none, rf_some, p_nil, p_none, p_some, a_nm, a_tup, a_nil, a_cons, s_skp, then_nx, then_rt, then_bk, then_ct, s_seq, s_asg, s_fre, s_par, ps_nil, ps_cons, s_exp, s_ret, s_rtn, s_ifs, s_lop, s_brk, s_cnt, s_nvr, s_app, s_set, s_setK, c_lst, ap_lst, si_lst, end_nx, end_rt, oo_nil, oo_0, oo_s, dk_c, dk_m, dk_d, dk_set, dk_can, dk_app, permL, List.filterMap_cons, List.filterMap_nil, List.getElem?_cons_zero, List.getElem?_cons_succ, List.cons_append, List.nil_append, List.append_nil, at0, at1, at2, isi_int, isi_bool, isi_tup, eqvI, Option.some.injEq, exists_eq_left', true_and, and_true, wipeR, Bool.not_true, Bool.not_false, forall_const, List.map_cons, List.map_nil, reduceCtorEq, false_implies, implies_true, true_implies, Bool.true_eq_false, Bool.false_eq_true, eq_self, o_slc, i2_nh]
  refine sat_imp (hP _ d1 _ hd1 (by omega) (by simp) (by decide)) ?_
  rintro _ ⟨x, d2, rfl, hx, hd2⟩
  have hcnt : ∃ n : Nat, n ≤ 6 ∧ x = .int (n : Int) := by
    have hx : x ∈ eN [0, 1, 1, 2, 2, 3, 4, 6, 6] := hx
    obtain ⟨n, hn, rfl⟩ := List.mem_map.mp hx
    have key : ∀ n ∈ [0, 1, 1, 2, 2, 3, 4, 6, 6], n ≤ 6 := by decide
    exact ⟨n, key n hn, rfl⟩
  obtain ⟨cnt, hc6, rfl⟩ := hcnt
  simp only [sOk, sat_bad, own_c0, own_cs, set_c0, set_cs, getS_c0, getS_cs, e_var, e_bor, e_iou, e_mov, e_frz, frz_some, e_cst, e_glb, e_flat, e_op1, e_op2, e_chn, chn_b, e_and, e_or, e_ife, lst_l, e_tup, e_lst, e_nil, e_cons, e_sub, e_key, e_slc, e_nop, e_rev, e_blt, e_call, it_l, it_t, e_comp, e_val, int_i, e_rng1, e_rng2, zip_l, zip_t, e_zip, e_pop, e_dsp, t_b, t_i, o_neg, o_not, o_add, o_sub, o_mul, o_fdv, o_mod, o_pow, o_lt, o_le, o_gt, o_ge, o_eq, o_ne, o_addL, o_inn, o_nin, o_isn, o_isnn, o_subL, o_subT, o_len, o_lenT, o_tupl, o_list, o_int, o_abs, o_max, o_min, o_gcd, o_sum, o_all, o_any, rb, eqvS, rf_nil, rf_none, rf_some, p_nil, p_none, p_some, a_nm, a_tup, a_nil, a_cons, s_skp, then_nx, then_rt, then_bk, then_ct, s_seq, s_asg, s_fre, s_par, ps_nil, ps_cons, s_exp, s_ret, s_rtn, s_ifs, s_lop, s_brk, s_cnt, s_nvr, s_app, s_set, s_setK, c_lst, ap_lst, si_lst, end_nx, end_rt, oo_nil, oo_0, oo_s, dk_c, dk_m, dk_d, dk_set, dk_can, dk_app, permL, List.filterMap_cons, List.filterMap_nil, List.getElem?_cons_zero, List.getElem?_cons_succ, List.cons_append, List.nil_append, List.append_nil, at0, at1, at2, isi_int, isi_bool, isi_tup, eqvI, Option.some.injEq, exists_eq_left', true_and, and_true, wipeR, Bool.not_true, Bool.not_false, forall_const, List.map_cons, List.map_nil, reduceCtorEq, false_implies, implies_true, true_implies, Bool.true_eq_false, Bool.false_eq_true, eq_self, o_slc, i2_nh]
  refine ⟨by unfold rngOk; exact decide_eq_true (by omega), ?_⟩
  refine loop_inv (I := fun i ρ => ∃ (fs : List Nat) (R : Nat) (s8 s10 : Slot) (d' : PyData), ρ = [some (2, d'), some (0, .int (10 ^ 40)), some (0, .int 1000), some (0, .list (eN [2, 2, 3, 3, 5, 7, 11, 13, 17, 19, 23, 29])), some (0, .int (prodN fs : Nat)), some (0, .int R), some (1, .list (eN fs)), some (0, .int way), s8, none, s10, none] ∧
      fs.Nodup ∧ (∀ p ∈ fs, p ∈ PR) ∧ 1 ≤ R ∧ prodN fs * R ≤ 1000 ∧ prodN fs < 10 ^ 40 ∧ fs.length ≤ i ∧ Deck (b + 2 + i) d') (rangeD 0 cnt) 0 (fun i dd ρ hdd hI => ?_) ⟨[], 1000, none, none, d2, rfl, List.nodup_nil, (fun _ h => nomatch h), by omega, by decide, by decide, by simp, hd2⟩ (fun ρ' hI => ?_)
  · obtain ⟨rfl, hi⟩ := range_get hdd
    rw [Nat.zero_add] at hI ⊢
    obtain ⟨fs, R, s8, s10, d', rfl, nd, hpr, hR, hroot, htop, hlen, hd'⟩ := hI
    simp only [loopB_sat, b_law_powers_2b, s_law_powers_2b_0, sOk, sat_bad, own_c0, own_cs, set_c0, set_cs, getS_c0, getS_cs, e_var, e_bor, e_iou, e_mov, e_frz, frz_some, e_cst, e_glb, e_flat, e_op1, e_op2, e_chn, chn_b, e_and, e_or, e_ife, lst_l, e_tup, e_lst, e_nil, e_cons, e_sub, e_key, e_slc, e_nop, e_rev, e_blt, e_call, it_l, it_t, e_comp, e_val, int_i, e_rng1, e_rng2, zip_l, zip_t, e_zip, e_pop, e_dsp, t_b, t_i, o_neg, o_not, o_add, o_sub, o_mul, o_fdv, o_mod, o_pow, o_lt, o_le, o_gt, o_ge, o_eq, o_ne, o_addL, o_inn, o_nin, o_isn, o_isnn, o_subL, o_subT, o_len, o_lenT, o_tupl, o_list, o_int, o_abs, o_max, o_min, o_gcd, o_sum, o_all, o_any, rb, eqvS, rf_nil, rf_none, rf_some, p_nil, p_none, p_some, a_nm, a_tup, a_nil, a_cons, s_skp, then_nx, then_rt, then_bk, then_ct, s_seq, s_asg, s_fre, s_par, ps_nil, ps_cons, s_exp, s_ret, s_rtn, s_ifs, s_lop, s_brk, s_cnt, s_nvr, s_app, s_set, s_setK, c_lst, ap_lst, si_lst, end_nx, end_rt, oo_nil, oo_0, oo_s, dk_c, dk_m, dk_d, dk_set, dk_can, dk_app, permL, List.filterMap_cons, List.filterMap_nil, List.getElem?_cons_zero, List.getElem?_cons_succ, List.cons_append, List.nil_append, List.append_nil, at0, at1, at2, isi_int, isi_bool, isi_tup, eqvI, Option.some.injEq, exists_eq_left', true_and, and_true, wipeR, Bool.not_true, Bool.not_false, forall_const, List.map_cons, List.map_nil, reduceCtorEq, false_implies, implies_true, true_implies, Bool.true_eq_false, Bool.false_eq_true, eq_self, o_slc, i2_nh]
    refine sat_imp (hP _ d' _ hd' (by omega) (by simp) (by decide)) ?_
    rintro _ ⟨x, d3, rfl, hx, hd3⟩
    obtain ⟨p, hp, rfl⟩ := pr_of hx
    have hpb := pr_bd hp
    simp only [sOk, sat_bad, own_c0, own_cs, set_c0, set_cs, getS_c0, getS_cs, e_var, e_bor, e_iou, e_mov, e_frz, frz_some, e_cst, e_glb, e_flat, e_op1, e_op2, e_chn, chn_b, e_and, e_or, e_ife, lst_l, e_tup, e_lst, e_nil, e_cons, e_sub, e_key, e_slc, e_nop, e_rev, e_blt, e_call, it_l, it_t, e_comp, e_val, int_i, e_rng1, e_rng2, zip_l, zip_t, e_zip, e_pop, e_dsp, t_b, t_i, o_neg, o_not, o_add, o_sub, o_mul, o_fdv, o_mod, o_pow, o_lt, o_le, o_gt, o_ge, o_eq, o_ne, o_addL, o_inn, o_nin, o_isn, o_isnn, o_subL, o_subT, o_len, o_lenT, o_tupl, o_list, o_int, o_abs, o_max, o_min, o_gcd, o_sum, o_all, o_any, rb, eqvS, rf_nil, rf_none, rf_some, p_nil, p_none, p_some, a_nm, a_tup, a_nil, a_cons, s_skp, then_nx, then_rt, then_bk, then_ct, s_seq, s_asg, s_fre, s_par, ps_nil, ps_cons, s_exp, s_ret, s_rtn, s_ifs, s_lop, s_brk, s_cnt, s_nvr, s_app, s_set, s_setK, c_lst, ap_lst, si_lst, end_nx, end_rt, oo_nil, oo_0, oo_s, dk_c, dk_m, dk_d, dk_set, dk_can, dk_app, permL, List.filterMap_cons, List.filterMap_nil, List.getElem?_cons_zero, List.getElem?_cons_succ, List.cons_append, List.nil_append, List.append_nil, at0, at1, at2, isi_int, isi_bool, isi_tup, eqvI, Option.some.injEq, exists_eq_left', true_and, and_true, wipeR, Bool.not_true, Bool.not_false, forall_const, List.map_cons, List.map_nil, reduceCtorEq, false_implies, implies_true, true_implies, Bool.true_eq_false, Bool.false_eq_true, eq_self, o_slc, i2_nh]
    have stay : ∀ s8 s10 : Slot, ∃ (fs' : List Nat) (R' : Nat) (s8' s10' : Slot) (d'' : PyData), [some (2, d3), some (0, PyData.int (10 ^ 40)), some (0, .int 1000), some (0, .list (eN [2, 2, 3, 3, 5, 7, 11, 13, 17, 19, 23, 29])), some (0, .int (prodN fs : Nat)), some (0, .int R), some (1, .list (eN fs)), some (0, .int way), s8, none, s10, none] =
        [some (2, d''), some (0, .int (10 ^ 40)), some (0, .int 1000), some (0, .list (eN [2, 2, 3, 3, 5, 7, 11, 13, 17, 19, 23, 29])), some (0, .int (prodN fs' : Nat)), some (0, .int R'), some (1, .list (eN fs')), some (0, .int way), s8', none, s10', none] ∧
        fs'.Nodup ∧ (∀ p ∈ fs', p ∈ PR) ∧ 1 ≤ R' ∧ prodN fs' * R' ≤ 1000 ∧ prodN fs' < 10 ^ 40 ∧ fs'.length ≤ i + 1 ∧ Deck (b + 2 + (i + 1)) d'' :=
      fun s8 s10 => ⟨fs, R, s8, s10, d3, rfl, nd, hpr, hR, hroot, htop, by omega, hd3⟩
    simp only [s_law_powers_2b_1, sOk, sat_bad, own_c0, own_cs, set_c0, set_cs, getS_c0, getS_cs, e_var, e_bor, e_iou, e_mov, e_frz, frz_some, e_cst, e_glb, e_flat, e_op1, e_op2, e_chn, chn_b, e_and, e_or, e_ife, lst_l, e_tup, e_lst, e_nil, e_cons, e_sub, e_key, e_slc, e_nop, e_rev, e_blt, e_call, it_l, it_t, e_comp, e_val, int_i, e_rng1, e_rng2, zip_l, zip_t, e_zip, e_pop, e_dsp, t_b, t_i, o_neg, o_not, o_add, o_sub, o_mul, o_fdv, o_mod, o_pow, o_lt, o_le, o_gt, o_ge, o_eq, o_ne, o_addL, o_inn, o_nin, o_isn, o_isnn, o_subL, o_subT, o_len, o_lenT, o_tupl, o_list, o_int, o_abs, o_max, o_min, o_gcd, o_sum, o_all, o_any, rb, eqvS, rf_nil, rf_none, rf_some, p_nil, p_none, p_some, a_nm, a_tup, a_nil, a_cons, s_skp, then_nx, then_rt, then_bk, then_ct, s_seq, s_asg, s_fre, s_par, ps_nil, ps_cons, s_exp, s_ret, s_rtn, s_ifs, s_lop, s_brk, s_cnt, s_nvr, s_app, s_set, s_setK, c_lst, ap_lst, si_lst, end_nx, end_rt, oo_nil, oo_0, oo_s, dk_c, dk_m, dk_d, dk_set, dk_can, dk_app, permL, List.filterMap_cons, List.filterMap_nil, List.getElem?_cons_zero, List.getElem?_cons_succ, List.cons_append, List.nil_append, List.append_nil, at0, at1, at2, isi_int, isi_bool, isi_tup, eqvI, Option.some.injEq, exists_eq_left', true_and, and_true, wipeR, Bool.not_true, Bool.not_false, forall_const, List.map_cons, List.map_nil, reduceCtorEq, false_implies, implies_true, true_implies, Bool.true_eq_false, Bool.false_eq_true, eq_self, o_slc, i2_nh]
    refine ⟨⟨rfl, flatN fs⟩, fun hc1 => ⟨fun hc2 => ⟨mulOk_of (by omega) (by omega), fun hc3 => ?_, fun _ => ⟨.inl trivial, stay _ _⟩⟩, fun h => bF h ⟨.inl trivial, stay _ _⟩⟩, fun h => bF h ⟨.inl trivial, stay _ _⟩⟩
    have hn : p ∉ fs := fun h => by
      rw [inD_N.mpr h] at hc1
      cases hc1
    have h2 : (p : Int) ≤ (R : Int) := of_decide_eq_true hc2
    have h3 := of_decide_eq_true hc3
    have e1 : prodN (fs ++ [p]) = prodN fs * p := by rw [prodN_app]; simp [prodN]
    simp only [b_law_powers_2b_1t, s_law_powers_2b_1t_0, sOk, sat_bad, own_c0, own_cs, set_c0, set_cs, getS_c0, getS_cs, e_var, e_bor, e_iou, e_mov, e_frz, frz_some, e_cst, e_glb, e_flat, e_op1, e_op2, e_chn, chn_b, e_and, e_or, e_ife, lst_l, e_tup, e_lst, e_nil, e_cons, e_sub, e_key, e_slc, e_nop, e_rev, e_blt, e_call, it_l, it_t, e_comp, e_val, int_i, e_rng1, e_rng2, zip_l, zip_t, e_zip, e_pop, e_dsp, t_b, t_i, o_neg, o_not, o_add, o_sub, o_mul, o_fdv, o_mod, o_pow, o_lt, o_le, o_gt, o_ge, o_eq, o_ne, o_addL, o_inn, o_nin, o_isn, o_isnn, o_subL, o_subT, o_len, o_lenT, o_tupl, o_list, o_int, o_abs, o_max, o_min, o_gcd, o_sum, o_all, o_any, rb, eqvS, rf_nil, rf_none, rf_some, p_nil, p_none, p_some, a_nm, a_tup, a_nil, a_cons, s_skp, then_nx, then_rt, then_bk, then_ct, s_seq, s_asg, s_fre, s_par, ps_nil, ps_cons, s_exp, s_ret, s_rtn, s_ifs, s_lop, s_brk, s_cnt, s_nvr, s_app, s_set, s_setK, c_lst, ap_lst, si_lst, end_nx, end_rt, oo_nil, oo_0, oo_s, dk_c, dk_m, dk_d, dk_set, dk_can, dk_app, permL, List.filterMap_cons, List.filterMap_nil, List.getElem?_cons_zero, List.getElem?_cons_succ, List.cons_append, List.nil_append, List.append_nil, at0, at1, at2, isi_int, isi_bool, isi_tup, eqvI, Option.some.injEq, exists_eq_left', true_and, and_true, wipeR, Bool.not_true, Bool.not_false, forall_const, List.map_cons, List.map_nil, reduceCtorEq, false_implies, implies_true, true_implies, Bool.true_eq_false, Bool.false_eq_true, eq_self, o_slc, i2_nh]
    refine ⟨by rw [List.length_map]; omega, ?_⟩
    simp only [s_law_powers_2b_1t_1, sOk, sat_bad, own_c0, own_cs, set_c0, set_cs, getS_c0, getS_cs, e_var, e_bor, e_iou, e_mov, e_frz, frz_some, e_cst, e_glb, e_flat, e_op1, e_op2, e_chn, chn_b, e_and, e_or, e_ife, lst_l, e_tup, e_lst, e_nil, e_cons, e_sub, e_key, e_slc, e_nop, e_rev, e_blt, e_call, it_l, it_t, e_comp, e_val, int_i, e_rng1, e_rng2, zip_l, zip_t, e_zip, e_pop, e_dsp, t_b, t_i, o_neg, o_not, o_add, o_sub, o_mul, o_fdv, o_mod, o_pow, o_lt, o_le, o_gt, o_ge, o_eq, o_ne, o_addL, o_inn, o_nin, o_isn, o_isnn, o_subL, o_subT, o_len, o_lenT, o_tupl, o_list, o_int, o_abs, o_max, o_min, o_gcd, o_sum, o_all, o_any, rb, eqvS, rf_nil, rf_none, rf_some, p_nil, p_none, p_some, a_nm, a_tup, a_nil, a_cons, s_skp, then_nx, then_rt, then_bk, then_ct, s_seq, s_asg, s_fre, s_par, ps_nil, ps_cons, s_exp, s_ret, s_rtn, s_ifs, s_lop, s_brk, s_cnt, s_nvr, s_app, s_set, s_setK, c_lst, ap_lst, si_lst, end_nx, end_rt, oo_nil, oo_0, oo_s, dk_c, dk_m, dk_d, dk_set, dk_can, dk_app, permL, List.filterMap_cons, List.filterMap_nil, List.getElem?_cons_zero, List.getElem?_cons_succ, List.cons_append, List.nil_append, List.append_nil, at0, at1, at2, isi_int, isi_bool, isi_tup, eqvI, Option.some.injEq, exists_eq_left', true_and, and_true, wipeR, Bool.not_true, Bool.not_false, forall_const, List.map_cons, List.map_nil, reduceCtorEq, false_implies, implies_true, true_implies, Bool.true_eq_false, Bool.false_eq_true, eq_self, o_slc, i2_nh]
    refine ⟨mulOk_of (by omega) (by omega), ⟨by omega, lg (by omega) (by omega)⟩, .inl trivial, ?_⟩
    have q1 : ((prodN fs : Nat) : Int) * (p : Int) = ((prodN (fs ++ [p]) : Nat) : Int) := by rw [e1, Int.natCast_mul]
    have q2 : (R : Int) / (p : Int) = ((R / p : Nat) : Int) := (Int.natCast_ediv _ _).symm
    have q3 : eN fs ++ [.int p] = eN (fs ++ [p]) := by simp only [eN, List.map_append, List.map_cons, List.map_nil]
    rw [q1, q2, q3]
    refine ⟨fs ++ [p], R / p, _, _, d3, rfl, ?_, ?_, ?_, ?_, ?_, ?_, hd3⟩
    · exact List.nodup_append.mpr ⟨nd, by simp, fun a ha c hc e => hn (by
        rw [List.mem_singleton.mp hc] at e
        exact e ▸ ha)⟩
    · intro q hq
      rcases List.mem_append.mp hq with hq | hq
      · exact hpr q hq
      · rw [List.mem_singleton.mp hq]; exact hp
    · exact (Nat.le_div_iff_mul_le (by omega)).mpr (by omega)
    · rw [e1, Nat.mul_assoc]
      exact Nat.le_trans (Nat.mul_le_mul_left _ (Nat.mul_div_le R p)) hroot
    · rw [e1]
      have : ((prodN fs * p : Nat) : Int) < 10 ^ 40 := by rw [Int.natCast_mul]; exact h3
      omega
    · rw [List.length_append]
      simp only [List.length_cons, List.length_nil]
      omega
  · obtain ⟨fs, R, s8, s10, d', rfl, nd, hpr, hR, hroot, htop, hlen, hd'⟩ := hI
    rw [range_len] at hlen hd'
    have hcn : ((cnt : Int) - 0).toNat = cnt := by omega
    rw [hcn] at hlen hd'
    simp only [then_nx, s_law_powers_3, sOk, sat_bad, own_c0, own_cs, set_c0, set_cs, getS_c0, getS_cs, e_var, e_bor, e_iou, e_mov, e_frz, frz_some, e_cst, e_glb, e_flat, e_op1, e_op2, e_chn, chn_b, e_and, e_or, e_ife, lst_l, e_tup, e_lst, e_nil, e_cons, e_sub, e_key, e_slc, e_nop, e_rev, e_blt, e_call, it_l, it_t, e_comp, e_val, int_i, e_rng1, e_rng2, zip_l, zip_t, e_zip, e_pop, e_dsp, t_b, t_i, o_neg, o_not, o_add, o_sub, o_mul, o_fdv, o_mod, o_pow, o_lt, o_le, o_gt, o_ge, o_eq, o_ne, o_addL, o_inn, o_nin, o_isn, o_isnn, o_subL, o_subT, o_len, o_lenT, o_tupl, o_list, o_int, o_abs, o_max, o_min, o_gcd, o_sum, o_all, o_any, rb, eqvS, rf_nil, rf_none, rf_some, p_nil, p_none, p_some, a_nm, a_tup, a_nil, a_cons, s_skp, then_nx, then_rt, then_bk, then_ct, s_seq, s_asg, s_fre, s_par, ps_nil, ps_cons, s_exp, s_ret, s_rtn, s_ifs, s_lop, s_brk, s_cnt, s_nvr, s_app, s_set, s_setK, c_lst, ap_lst, si_lst, end_nx, end_rt, oo_nil, oo_0, oo_s, dk_c, dk_m, dk_d, dk_set, dk_can, dk_app, permL, List.filterMap_cons, List.filterMap_nil, List.getElem?_cons_zero, List.getElem?_cons_succ, List.cons_append, List.nil_append, List.append_nil, at0, at1, at2, isi_int, isi_bool, isi_tup, eqvI, Option.some.injEq, exists_eq_left', true_and, and_true, wipeR, Bool.not_true, Bool.not_false, forall_const, List.map_cons, List.map_nil, reduceCtorEq, false_implies, implies_true, true_implies, Bool.true_eq_false, Bool.false_eq_true, eq_self, o_slc, i2_nh]
    simp only [s_law_powers_4, sOk, sat_bad, own_c0, own_cs, set_c0, set_cs, getS_c0, getS_cs, e_var, e_bor, e_iou, e_mov, e_frz, frz_some, e_cst, e_glb, e_flat, e_op1, e_op2, e_chn, chn_b, e_and, e_or, e_ife, lst_l, e_tup, e_lst, e_nil, e_cons, e_sub, e_key, e_slc, e_nop, e_rev, e_blt, e_call, it_l, it_t, e_comp, e_val, int_i, e_rng1, e_rng2, zip_l, zip_t, e_zip, e_pop, e_dsp, t_b, t_i, o_neg, o_not, o_add, o_sub, o_mul, o_fdv, o_mod, o_pow, o_lt, o_le, o_gt, o_ge, o_eq, o_ne, o_addL, o_inn, o_nin, o_isn, o_isnn, o_subL, o_subT, o_len, o_lenT, o_tupl, o_list, o_int, o_abs, o_max, o_min, o_gcd, o_sum, o_all, o_any, rb, eqvS, rf_nil, rf_none, rf_some, p_nil, p_none, p_some, a_nm, a_tup, a_nil, a_cons, s_skp, then_nx, then_rt, then_bk, then_ct, s_seq, s_asg, s_fre, s_par, ps_nil, ps_cons, s_exp, s_ret, s_rtn, s_ifs, s_lop, s_brk, s_cnt, s_nvr, s_app, s_set, s_setK, c_lst, ap_lst, si_lst, end_nx, end_rt, oo_nil, oo_0, oo_s, dk_c, dk_m, dk_d, dk_set, dk_can, dk_app, permL, List.filterMap_cons, List.filterMap_nil, List.getElem?_cons_zero, List.getElem?_cons_succ, List.cons_append, List.nil_append, List.append_nil, at0, at1, at2, isi_int, isi_bool, isi_tup, eqvI, Option.some.injEq, exists_eq_left', true_and, and_true, wipeR, Bool.not_true, Bool.not_false, forall_const, List.map_cons, List.map_nil, reduceCtorEq, false_implies, implies_true, true_implies, Bool.true_eq_false, Bool.false_eq_true, eq_self, o_slc, i2_nh]
    refine sortN fun fs' pm => ?_
    simp only [sOk, sat_bad, own_c0, own_cs, set_c0, set_cs, getS_c0, getS_cs, e_var, e_bor, e_iou, e_mov, e_frz, frz_some, e_cst, e_glb, e_flat, e_op1, e_op2, e_chn, chn_b, e_and, e_or, e_ife, lst_l, e_tup, e_lst, e_nil, e_cons, e_sub, e_key, e_slc, e_nop, e_rev, e_blt, e_call, it_l, it_t, e_comp, e_val, int_i, e_rng1, e_rng2, zip_l, zip_t, e_zip, e_pop, e_dsp, t_b, t_i, o_neg, o_not, o_add, o_sub, o_mul, o_fdv, o_mod, o_pow, o_lt, o_le, o_gt, o_ge, o_eq, o_ne, o_addL, o_inn, o_nin, o_isn, o_isnn, o_subL, o_subT, o_len, o_lenT, o_tupl, o_list, o_int, o_abs, o_max, o_min, o_gcd, o_sum, o_all, o_any, rb, eqvS, rf_nil, rf_none, rf_some, p_nil, p_none, p_some, a_nm, a_tup, a_nil, a_cons, s_skp, then_nx, then_rt, then_bk, then_ct, s_seq, s_asg, s_fre, s_par, ps_nil, ps_cons, s_exp, s_ret, s_rtn, s_ifs, s_lop, s_brk, s_cnt, s_nvr, s_app, s_set, s_setK, c_lst, ap_lst, si_lst, end_nx, end_rt, oo_nil, oo_0, oo_s, dk_c, dk_m, dk_d, dk_set, dk_can, dk_app, permL, List.filterMap_cons, List.filterMap_nil, List.getElem?_cons_zero, List.getElem?_cons_succ, List.cons_append, List.nil_append, List.append_nil, at0, at1, at2, isi_int, isi_bool, isi_tup, eqvI, Option.some.injEq, exists_eq_left', true_and, and_true, wipeR, Bool.not_true, Bool.not_false, forall_const, List.map_cons, List.map_nil, reduceCtorEq, false_implies, implies_true, true_implies, Bool.true_eq_false, Bool.false_eq_true, eq_self, o_slc, i2_nh]
    have hlen' : fs'.length ≤ 6 := by rw [pm.length_eq]; omega
    have hpr' : ∀ p ∈ fs', p ∈ PR := fun p hp => hpr p (pm.mem_iff.mp hp)
    have hw : ∃ k : Nat, 1 ≤ k ∧ k ≤ 140 ∧ L2.atI [PyData.int 1, .int 3, .int 14, .int 140] way = some (.int (k : Int)) := by
      obtain ⟨x, e, hx⟩ := atI_ok (xs := [PyData.int 1, .int 3, .int 14, .int 140]) w0 (by simpa using w1)
      have hx : x ∈ eN [1, 3, 14, 140] := hx
      obtain ⟨n, hn, rfl⟩ := List.mem_map.mp hx
      have key : ∀ n ∈ [1, 3, 14, 140], 1 ≤ n ∧ n ≤ 140 := by decide
      exact ⟨n, (key n hn).1, (key n hn).2, e⟩
    obtain ⟨k, k1, k2, hk⟩ := hw
    refine loop_inv (I := fun i ρ => ∃ (L : List (Nat × Nat)) (s8 s10 s11 : Slot) (d' : PyData), ρ = [some (2, d'), some (0, .int (10 ^ 40)), some (0, .int 1000), some (0, .list (eN [2, 2, 3, 3, 5, 7, 11, 13, 17, 19, 23, 29])), some (0, .int (prodN (L.map Prod.snd) * prodN (fs'.drop i) : Nat)), some (0, .int R), some (1, .list (eN fs)), some (0, .int way), s8, some (1, .list (eP L)), s10, s11] ∧
        L.map Prod.fst = fs'.take i ∧ (∀ x ∈ L, ∃ e, x.2 = x.1 ^ (e + 1)) ∧ prodN (L.map Prod.snd) * prodN (fs'.drop i) < 10 ^ 40 ∧ Deck (b + 10 + i) d') (eN fs') 0 (fun i dd ρ hdd hI => ?_) ⟨[], s8, s10, none, d', ?_, rfl, (fun _ h => nomatch h), ?_, hd'.mono (by omega)⟩ (fun ρ' hI => ?_)
    · rw [Nat.zero_add] at hI ⊢
      obtain ⟨L, s8, s10, s11, d', rfl, hf, hpw, htop, hd'⟩ := hI
      unfold eN at hdd
      rw [List.getElem?_map] at hdd
      cases hg : fs'[i]? with
      | none => rw [hg] at hdd; cases hdd
      | some p =>
        rw [hg] at hdd
        cases hdd
        have hp : p ∈ PR := hpr' p (List.mem_of_getElem? hg)
        have hpb := pr_bd hp
        have hdrop : fs'.drop i = p :: fs'.drop (i + 1) := by
          have hlt : i < fs'.length := by
            rcases Nat.lt_or_ge i fs'.length with h | h
            · exact h
            · rw [List.getElem?_eq_none h] at hg; cases hg
          rw [List.drop_eq_getElem_cons hlt]
          rw [List.getElem?_eq_getElem hlt] at hg
          rw [Option.some.inj hg]
        have htake : fs'.take (i + 1) = fs'.take i ++ [p] := by
          rw [List.take_add_one, hg]
          rfl
        have hi : i < 6 := by
          rcases Nat.lt_or_ge i fs'.length with h | h
          · omega
          · rw [List.getElem?_eq_none h] at hg; cases hg
        rw [hdrop, prodN] at htop
        rw [hdrop, prodN]
        have hApos : 0 < prodN (L.map Prod.snd) := prod_pos fun y hy => by
          obtain ⟨x, hx, rfl⟩ := List.mem_map.mp hy
          obtain ⟨e, he⟩ := hpw x hx
          have hm : x.1 ∈ fs'.take i := hf ▸ List.mem_map_of_mem hx
          rw [he]
          exact Nat.pow_pos (by have := (pr_bd (hpr' _ (List.mem_of_mem_take hm))).1; omega)
        have hTpos : 0 < prodN (fs'.drop (i + 1)) := prod_pos fun y hy => by
          have := (pr_bd (hpr' _ (List.mem_of_mem_drop hy))).1
          omega
        have hLlen : L.length ≤ 6 := by
          have := congrArg List.length hf
          rw [List.length_map, List.length_take] at this
          omega
        generalize hA : prodN (L.map Prod.snd) = A at *
        generalize hB : prodN (fs'.drop (i + 1)) = T at *
        simp only [loopB_sat, b_law_powers_4b, s_law_powers_4b_0, sOk, sat_bad, own_c0, own_cs, set_c0, set_cs, getS_c0, getS_cs, e_var, e_bor, e_iou, e_mov, e_frz, frz_some, e_cst, e_glb, e_flat, e_op1, e_op2, e_chn, chn_b, e_and, e_or, e_ife, lst_l, e_tup, e_lst, e_nil, e_cons, e_sub, e_key, e_slc, e_nop, e_rev, e_blt, e_call, it_l, it_t, e_comp, e_val, int_i, e_rng1, e_rng2, zip_l, zip_t, e_zip, e_pop, e_dsp, t_b, t_i, o_neg, o_not, o_add, o_sub, o_mul, o_fdv, o_mod, o_pow, o_lt, o_le, o_gt, o_ge, o_eq, o_ne, o_addL, o_inn, o_nin, o_isn, o_isnn, o_subL, o_subT, o_len, o_lenT, o_tupl, o_list, o_int, o_abs, o_max, o_min, o_gcd, o_sum, o_all, o_any, rb, eqvS, rf_nil, rf_none, rf_some, p_nil, p_none, p_some, a_nm, a_tup, a_nil, a_cons, s_skp, then_nx, then_rt, then_bk, then_ct, s_seq, s_asg, s_fre, s_par, ps_nil, ps_cons, s_exp, s_ret, s_rtn, s_ifs, s_lop, s_brk, s_cnt, s_nvr, s_app, s_set, s_setK, c_lst, ap_lst, si_lst, end_nx, end_rt, oo_nil, oo_0, oo_s, dk_c, dk_m, dk_d, dk_set, dk_can, dk_app, permL, List.filterMap_cons, List.filterMap_nil, List.getElem?_cons_zero, List.getElem?_cons_succ, List.cons_append, List.nil_append, List.append_nil, at0, at1, at2, isi_int, isi_bool, isi_tup, eqvI, Option.some.injEq, exists_eq_left', true_and, and_true, wipeR, Bool.not_true, Bool.not_false, forall_const, List.map_cons, List.map_nil, reduceCtorEq, false_implies, implies_true, true_implies, Bool.true_eq_false, Bool.false_eq_true, eq_self, o_slc, i2_nh]
        simp only [s_law_powers_4b_1, sOk, sat_bad, own_c0, own_cs, set_c0, set_cs, getS_c0, getS_cs, e_var, e_bor, e_iou, e_mov, e_frz, frz_some, e_cst, e_glb, e_flat, e_op1, e_op2, e_chn, chn_b, e_and, e_or, e_ife, lst_l, e_tup, e_lst, e_nil, e_cons, e_sub, e_key, e_slc, e_nop, e_rev, e_blt, e_call, it_l, it_t, e_comp, e_val, int_i, e_rng1, e_rng2, zip_l, zip_t, e_zip, e_pop, e_dsp, t_b, t_i, o_neg, o_not, o_add, o_sub, o_mul, o_fdv, o_mod, o_pow, o_lt, o_le, o_gt, o_ge, o_eq, o_ne, o_addL, o_inn, o_nin, o_isn, o_isnn, o_subL, o_subT, o_len, o_lenT, o_tupl, o_list, o_int, o_abs, o_max, o_min, o_gcd, o_sum, o_all, o_any, rb, eqvS, rf_nil, rf_none, rf_some, p_nil, p_none, p_some, a_nm, a_tup, a_nil, a_cons, s_skp, then_nx, then_rt, then_bk, then_ct, s_seq, s_asg, s_fre, s_par, ps_nil, ps_cons, s_exp, s_ret, s_rtn, s_ifs, s_lop, s_brk, s_cnt, s_nvr, s_app, s_set, s_setK, c_lst, ap_lst, si_lst, end_nx, end_rt, oo_nil, oo_0, oo_s, dk_c, dk_m, dk_d, dk_set, dk_can, dk_app, permL, List.filterMap_cons, List.filterMap_nil, List.getElem?_cons_zero, List.getElem?_cons_succ, List.cons_append, List.nil_append, List.append_nil, at0, at1, at2, isi_int, isi_bool, isi_tup, eqvI, Option.some.injEq, exists_eq_left', true_and, and_true, wipeR, Bool.not_true, Bool.not_false, forall_const, List.map_cons, List.map_nil, reduceCtorEq, false_implies, implies_true, true_implies, Bool.true_eq_false, Bool.false_eq_true, eq_self, o_slc, i2_nh, hk]
        refine sat_imp (hD _ d' k hd' (by omega) (by omega) (by omega)) ?_
        rintro _ ⟨tn, d3, rfl, t0, t1, hd3⟩
        simp only [sOk, sat_bad, own_c0, own_cs, set_c0, set_cs, getS_c0, getS_cs, e_var, e_bor, e_iou, e_mov, e_frz, frz_some, e_cst, e_glb, e_flat, e_op1, e_op2, e_chn, chn_b, e_and, e_or, e_ife, lst_l, e_tup, e_lst, e_nil, e_cons, e_sub, e_key, e_slc, e_nop, e_rev, e_blt, e_call, it_l, it_t, e_comp, e_val, int_i, e_rng1, e_rng2, zip_l, zip_t, e_zip, e_pop, e_dsp, t_b, t_i, o_neg, o_not, o_add, o_sub, o_mul, o_fdv, o_mod, o_pow, o_lt, o_le, o_gt, o_ge, o_eq, o_ne, o_addL, o_inn, o_nin, o_isn, o_isnn, o_subL, o_subT, o_len, o_lenT, o_tupl, o_list, o_int, o_abs, o_max, o_min, o_gcd, o_sum, o_all, o_any, rb, eqvS, rf_nil, rf_none, rf_some, p_nil, p_none, p_some, a_nm, a_tup, a_nil, a_cons, s_skp, then_nx, then_rt, then_bk, then_ct, s_seq, s_asg, s_fre, s_par, ps_nil, ps_cons, s_exp, s_ret, s_rtn, s_ifs, s_lop, s_brk, s_cnt, s_nvr, s_app, s_set, s_setK, c_lst, ap_lst, si_lst, end_nx, end_rt, oo_nil, oo_0, oo_s, dk_c, dk_m, dk_d, dk_set, dk_can, dk_app, permL, List.filterMap_cons, List.filterMap_nil, List.getElem?_cons_zero, List.getElem?_cons_succ, List.cons_append, List.nil_append, List.append_nil, at0, at1, at2, isi_int, isi_bool, isi_tup, eqvI, Option.some.injEq, exists_eq_left', true_and, and_true, wipeR, Bool.not_true, Bool.not_false, forall_const, List.map_cons, List.map_nil, reduceCtorEq, false_implies, implies_true, true_implies, Bool.true_eq_false, Bool.false_eq_true, eq_self, o_slc, i2_nh]
        refine ⟨by unfold rngOk; exact decide_eq_true (by omega), ?_⟩
        refine loop_inv (I := fun j ρ => ∃ (e : Nat) (s8 : Slot), ρ = [some (2, d3), some (0, .int (10 ^ 40)), some (0, .int 1000), some (0, .list (eN [2, 2, 3, 3, 5, 7, 11, 13, 17, 19, 23, 29])), some (0, .int (A * (p ^ (e + 1) * T) : Nat)), some (0, .int R), some (1, .list (eN fs)), some (0, .int way), s8, some (1, .list (eP L)), some (0, .int p), some (0, .int (p ^ (e + 1) : Nat))] ∧ A * (p ^ (e + 1) * T) < 10 ^ 40 ∧ p ^ (e + 1) < 10 ^ 40) (rangeD 0 tn) 0 (fun j d4 ρ hd4 hJ => ?_) ⟨0, s8, ?_, ?_, ?_⟩ (fun ρ' hJ => ?_)
        · obtain ⟨rfl, hj⟩ := range_get hd4
          obtain ⟨e, s8, rfl, hlt, hq⟩ := hJ
          simp only [loopB_sat, b_law_powers_4b_1b, s_law_powers_4b_1b_0, sOk, sat_bad, own_c0, own_cs, set_c0, set_cs, getS_c0, getS_cs, e_var, e_bor, e_iou, e_mov, e_frz, frz_some, e_cst, e_glb, e_flat, e_op1, e_op2, e_chn, chn_b, e_and, e_or, e_ife, lst_l, e_tup, e_lst, e_nil, e_cons, e_sub, e_key, e_slc, e_nop, e_rev, e_blt, e_call, it_l, it_t, e_comp, e_val, int_i, e_rng1, e_rng2, zip_l, zip_t, e_zip, e_pop, e_dsp, t_b, t_i, o_neg, o_not, o_add, o_sub, o_mul, o_fdv, o_mod, o_pow, o_lt, o_le, o_gt, o_ge, o_eq, o_ne, o_addL, o_inn, o_nin, o_isn, o_isnn, o_subL, o_subT, o_len, o_lenT, o_tupl, o_list, o_int, o_abs, o_max, o_min, o_gcd, o_sum, o_all, o_any, rb, eqvS, rf_nil, rf_none, rf_some, p_nil, p_none, p_some, a_nm, a_tup, a_nil, a_cons, s_skp, then_nx, then_rt, then_bk, then_ct, s_seq, s_asg, s_fre, s_par, ps_nil, ps_cons, s_exp, s_ret, s_rtn, s_ifs, s_lop, s_brk, s_cnt, s_nvr, s_app, s_set, s_setK, c_lst, ap_lst, si_lst, end_nx, end_rt, oo_nil, oo_0, oo_s, dk_c, dk_m, dk_d, dk_set, dk_can, dk_app, permL, List.filterMap_cons, List.filterMap_nil, List.getElem?_cons_zero, List.getElem?_cons_succ, List.cons_append, List.nil_append, List.append_nil, at0, at1, at2, isi_int, isi_bool, isi_tup, eqvI, Option.some.injEq, exists_eq_left', true_and, and_true, wipeR, Bool.not_true, Bool.not_false, forall_const, List.map_cons, List.map_nil, reduceCtorEq, false_implies, implies_true, true_implies, Bool.true_eq_false, Bool.false_eq_true, eq_self, o_slc, i2_nh]
          refine ⟨mulOk_of (by omega) (by omega), fun hc => ?_, fun _ => ⟨.inl trivial, e, _, rfl, hlt, hq⟩⟩
          have hc := of_decide_eq_true hc
          have e1 : A * (p ^ (e + 1) * T) * p = A * (p ^ (e + 1 + 1) * T) := by
            rw [Nat.pow_succ p (e + 1), Nat.mul_assoc, Nat.mul_assoc, Nat.mul_assoc, Nat.mul_comm T p]
          have hlt2 : A * (p ^ (e + 1 + 1) * T) < 10 ^ 40 := by
            rw [← e1]
            have : ((A * (p ^ (e + 1) * T) * p : Nat) : Int) < 10 ^ 40 := by rw [Int.natCast_mul]; exact hc
            omega
          simp only [b_law_powers_4b_1b_0t, s_law_powers_4b_1b_0t_0, sOk, sat_bad, own_c0, own_cs, set_c0, set_cs, getS_c0, getS_cs, e_var, e_bor, e_iou, e_mov, e_frz, frz_some, e_cst, e_glb, e_flat, e_op1, e_op2, e_chn, chn_b, e_and, e_or, e_ife, lst_l, e_tup, e_lst, e_nil, e_cons, e_sub, e_key, e_slc, e_nop, e_rev, e_blt, e_call, it_l, it_t, e_comp, e_val, int_i, e_rng1, e_rng2, zip_l, zip_t, e_zip, e_pop, e_dsp, t_b, t_i, o_neg, o_not, o_add, o_sub, o_mul, o_fdv, o_mod, o_pow, o_lt, o_le, o_gt, o_ge, o_eq, o_ne, o_addL, o_inn, o_nin, o_isn, o_isnn, o_subL, o_subT, o_len, o_lenT, o_tupl, o_list, o_int, o_abs, o_max, o_min, o_gcd, o_sum, o_all, o_any, rb, eqvS, rf_nil, rf_none, rf_some, p_nil, p_none, p_some, a_nm, a_tup, a_nil, a_cons, s_skp, then_nx, then_rt, then_bk, then_ct, s_seq, s_asg, s_fre, s_par, ps_nil, ps_cons, s_exp, s_ret, s_rtn, s_ifs, s_lop, s_brk, s_cnt, s_nvr, s_app, s_set, s_setK, c_lst, ap_lst, si_lst, end_nx, end_rt, oo_nil, oo_0, oo_s, dk_c, dk_m, dk_d, dk_set, dk_can, dk_app, permL, List.filterMap_cons, List.filterMap_nil, List.getElem?_cons_zero, List.getElem?_cons_succ, List.cons_append, List.nil_append, List.append_nil, at0, at1, at2, isi_int, isi_bool, isi_tup, eqvI, Option.some.injEq, exists_eq_left', true_and, and_true, wipeR, Bool.not_true, Bool.not_false, forall_const, List.map_cons, List.map_nil, reduceCtorEq, false_implies, implies_true, true_implies, Bool.true_eq_false, Bool.false_eq_true, eq_self, o_slc, i2_nh]
          refine ⟨mulOk_of (by omega) (by omega), mulOk_of (by omega) (by omega), .inl trivial, ?_⟩
          have q1 : ((p ^ (e + 1) : Nat) : Int) * (p : Int) = ((p ^ (e + 1 + 1) : Nat) : Int) := by rw [Nat.pow_succ p (e + 1), Int.natCast_mul]
          have q2 : ((A * (p ^ (e + 1) * T) : Nat) : Int) * (p : Int) = ((A * (p ^ (e + 1 + 1) * T) : Nat) : Int) := by rw [← e1]; exact (Int.natCast_mul _ _).symm
          rw [q1, q2]
          refine ⟨e + 1, _, rfl, hlt2, ?_⟩
          · have h5 : p ^ (e + 1 + 1) ≤ p ^ (e + 1 + 1) * T := Nat.le_mul_of_pos_right _ hTpos
            have h6 : p ^ (e + 1 + 1) * T ≤ A * (p ^ (e + 1 + 1) * T) := Nat.le_mul_of_pos_left _ hApos
            omega
        · simp
        · simpa using htop
        · have : p ^ (0 + 1) = p := by simp
          rw [this]
          omega
        · obtain ⟨e, s8, rfl, hlt, hq⟩ := hJ
          simp only [then_nx, s_law_powers_4b_2, sOk, sat_bad, own_c0, own_cs, set_c0, set_cs, getS_c0, getS_cs, e_var, e_bor, e_iou, e_mov, e_frz, frz_some, e_cst, e_glb, e_flat, e_op1, e_op2, e_chn, chn_b, e_and, e_or, e_ife, lst_l, e_tup, e_lst, e_nil, e_cons, e_sub, e_key, e_slc, e_nop, e_rev, e_blt, e_call, it_l, it_t, e_comp, e_val, int_i, e_rng1, e_rng2, zip_l, zip_t, e_zip, e_pop, e_dsp, t_b, t_i, o_neg, o_not, o_add, o_sub, o_mul, o_fdv, o_mod, o_pow, o_lt, o_le, o_gt, o_ge, o_eq, o_ne, o_addL, o_inn, o_nin, o_isn, o_isnn, o_subL, o_subT, o_len, o_lenT, o_tupl, o_list, o_int, o_abs, o_max, o_min, o_gcd, o_sum, o_all, o_any, rb, eqvS, rf_nil, rf_none, rf_some, p_nil, p_none, p_some, a_nm, a_tup, a_nil, a_cons, s_skp, then_nx, then_rt, then_bk, then_ct, s_seq, s_asg, s_fre, s_par, ps_nil, ps_cons, s_exp, s_ret, s_rtn, s_ifs, s_lop, s_brk, s_cnt, s_nvr, s_app, s_set, s_setK, c_lst, ap_lst, si_lst, end_nx, end_rt, oo_nil, oo_0, oo_s, dk_c, dk_m, dk_d, dk_set, dk_can, dk_app, permL, List.filterMap_cons, List.filterMap_nil, List.getElem?_cons_zero, List.getElem?_cons_succ, List.cons_append, List.nil_append, List.append_nil, at0, at1, at2, isi_int, isi_bool, isi_tup, eqvI, Option.some.injEq, exists_eq_left', true_and, and_true, wipeR, Bool.not_true, Bool.not_false, forall_const, List.map_cons, List.map_nil, reduceCtorEq, false_implies, implies_true, true_implies, Bool.true_eq_false, Bool.false_eq_true, eq_self, o_slc, i2_nh]
          have e9 : prodN ((L ++ [(p, p ^ (e + 1))]).map Prod.snd) * T = A * (p ^ (e + 1) * T) := by
            rw [List.map_append, prodN_app, hA]
            simp [prodN, Nat.mul_assoc]
          refine ⟨by rw [List.length_map]; omega, .inl trivial, ?_⟩
          have q1 : eP L ++ [.tuple [.int p, .int (p ^ (e + 1) : Nat)]] = eP (L ++ [(p, p ^ (e + 1))]) := by simp only [eP, List.map_append, List.map_cons, List.map_nil]
          rw [q1, ← e9, ← hB]
          refine ⟨L ++ [(p, p ^ (e + 1))], _, _, _, d3, rfl, ?_, ?_, ?_, hd3⟩
          · rw [List.map_append, hf, htake]
            rfl
          · intro x hx
            rcases List.mem_append.mp hx with hx | hx
            · exact hpw x hx
            · rw [List.mem_singleton.mp hx]
              exact ⟨e, rfl⟩
          · rw [hB, e9]
            exact hlt
    · simp only [List.map_nil, prodN, List.drop_zero, Nat.one_mul, prodN_perm pm]
      rfl
    · simp only [List.map_nil, prodN, List.drop_zero, Nat.one_mul, prodN_perm pm]
      exact htop
    · obtain ⟨L, s8, s10, s11, d', rfl, hf, hpw, htop, hd'⟩ := hI
      rw [List.length_map] at hf htop hd'
      rw [Nat.zero_add, List.drop_length] at htop
      rw [Nat.zero_add, List.take_length] at hf
      simp only [then_nx, s_law_powers_5, sOk, sat_bad, own_c0, own_cs, set_c0, set_cs, getS_c0, getS_cs, e_var, e_bor, e_iou, e_mov, e_frz, frz_some, e_cst, e_glb, e_flat, e_op1, e_op2, e_chn, chn_b, e_and, e_or, e_ife, lst_l, e_tup, e_lst, e_nil, e_cons, e_sub, e_key, e_slc, e_nop, e_rev, e_blt, e_call, it_l, it_t, e_comp, e_val, int_i, e_rng1, e_rng2, zip_l, zip_t, e_zip, e_pop, e_dsp, t_b, t_i, o_neg, o_not, o_add, o_sub, o_mul, o_fdv, o_mod, o_pow, o_lt, o_le, o_gt, o_ge, o_eq, o_ne, o_addL, o_inn, o_nin, o_isn, o_isnn, o_subL, o_subT, o_len, o_lenT, o_tupl, o_list, o_int, o_abs, o_max, o_min, o_gcd, o_sum, o_all, o_any, rb, eqvS, rf_nil, rf_none, rf_some, p_nil, p_none, p_some, a_nm, a_tup, a_nil, a_cons, s_skp, then_nx, then_rt, then_bk, then_ct, s_seq, s_asg, s_fre, s_par, ps_nil, ps_cons, s_exp, s_ret, s_rtn, s_ifs, s_lop, s_brk, s_cnt, s_nvr, s_app, s_set, s_setK, c_lst, ap_lst, si_lst, end_nx, end_rt, oo_nil, oo_0, oo_s, dk_c, dk_m, dk_d, dk_set, dk_can, dk_app, permL, List.filterMap_cons, List.filterMap_nil, List.getElem?_cons_zero, List.getElem?_cons_succ, List.cons_append, List.nil_append, List.append_nil, at0, at1, at2, isi_int, isi_bool, isi_tup, eqvI, Option.some.injEq, exists_eq_left', true_and, and_true, wipeR, Bool.not_true, Bool.not_false, forall_const, List.map_cons, List.map_nil, reduceCtorEq, false_implies, implies_true, true_implies, Bool.true_eq_false, Bool.false_eq_true, eq_self, o_slc, i2_nh]
      refine ⟨noDictP L, L, d', rfl, ⟨fun x hx => hpr' _ (hf ▸ List.mem_map_of_mem hx), hpw, ?_, ?_, ?_⟩, hd'.mono (by omega)⟩
      · rw [hf]
        exact pm.nodup_iff.mpr nd
      · rw [hf, prodN_perm pm]
        exact Nat.le_trans (Nat.le_mul_of_pos_right _ hR) hroot
      · simpa [prodN] using htop
end
end K03

set_option Elab.async false
set_option linter.all false
set_option maxRecDepth 100000
set_option maxHeartbeats 2000000
set_option exponentiation.threshold 10000
namespace K03
open PySem Mini Mini.W
section
variable {G : Defs} {fu : Nat}
theorem pow40 {j : Nat} (h : j ≤ 10) : (10 ^ 40) ^ j ≤ 10 ^ 400 := by
  have h1 : (10 ^ 40) ^ j ≤ (10 ^ 40) ^ 10 := Nat.pow_le_pow_right (by decide) h
  have h2 : (10 ^ 40) ^ 10 = 10 ^ 400 := by rw [← Nat.pow_mul]
  omega
theorem numbers_ok (hD : DrawOk (G i_law_draw)) (hP : PickOk (G i_law_pick)) (hG : GreatOk (G i_law_great)) : NumbersOk (runDf G fu d_law_numbers) := by
  intro b d L n P n1 n3 hd hb
  have hL : LIM = 1000000 := rfl
  have hT : TOP = 10 ^ 60 := rfl
  have htop : per L < 10 ^ 40 := P.top
  have hpos := P.pos
  have hfew := P.few
  rw [s_run rfl]
  show (exS G fu d_law_numbers.body [some (2, d), some (0, .list (eP L)), some (0, .int (per L)), some (0, .int n), none, none, none, none, none, none, none]).sat (endB [2, 0, 0, 0] _)
  simp only [d_law_numbers, s_law_numbers_0, sOk, sat_bad, own_c0, own_cs, set_c0, set_cs, getS_c0, getS_cs, e_var, e_bor, e_iou, e_mov, e_frz, frz_some, e_cst, e_glb, e_flat, e_op1, e_op2, e_chn, chn_b, e_and, e_or, e_ife, lst_l, e_tup, e_lst, e_nil, e_cons, e_sub, e_key, e_slc, e_nop, e_rev, e_blt, e_call, it_l, it_t, e_comp, e_val, int_i, e_rng1, e_rng2, zip_l, zip_t, e_zip, e_pop, e_dsp, t_b, t_i, o_neg, o_not, o_add, o_sub, o_mul, o_fdv, o_mod, o_pow, o_lt, o_le, o_gt, o_ge, o_eq, o_ne, o_addL, o_inn, o_nin, o_isn, o_isnn, o_subL, o_subT, o_len, o_lenT, o_tupl, o_list, o_int, o_abs, o_max, o_min, o_gcd, o_sum, o_all, o_any, rb, eqvS, rf_nil, rf_none, rf_some, p_nil, p_none, p_some, a_nm, a_tup, a_nil, a_cons, s_skp, then_nx, then_rt, then_bk, then_ct, s_seq, s_asg, s_fre, s_par, ps_nil, ps_cons, s_exp, s_ret, s_rtn, s_ifs, s_lop, s_brk, s_cnt, s_nvr, s_app, s_set, s_setK, c_lst, ap_lst, si_lst, end_nx, end_rt, oo_nil, oo_0, oo_s, dk_c, dk_m, dk_d, dk_set, dk_can, dk_app, permL, List.filterMap_cons, List.filterMap_nil, List.getElem?_cons_zero, List.getElem?_cons_succ, List.cons_append, List.nil_append, List.append_nil, at0, at1, at2, isi_int, isi_bool, isi_tup, eqvI, Option.some.injEq, exists_eq_left', true_and, and_true, wipeR, Bool.not_true, Bool.not_false, forall_const, List.map_cons, List.map_nil, reduceCtorEq, false_implies, implies_true, true_implies, Bool.true_eq_false, Bool.false_eq_true, eq_self, o_slc, i2_nh]
  simp only [s_law_numbers_1, sOk, sat_bad, own_c0, own_cs, set_c0, set_cs, getS_c0, getS_cs, e_var, e_bor, e_iou, e_mov, e_frz, frz_some, e_cst, e_glb, e_flat, e_op1, e_op2, e_chn, chn_b, e_and, e_or, e_ife, lst_l, e_tup, e_lst, e_nil, e_cons, e_sub, e_key, e_slc, e_nop, e_rev, e_blt, e_call, it_l, it_t, e_comp, e_val, int_i, e_rng1, e_rng2, zip_l, zip_t, e_zip, e_pop, e_dsp, t_b, t_i, o_neg, o_not, o_add, o_sub, o_mul, o_fdv, o_mod, o_pow, o_lt, o_le, o_gt, o_ge, o_eq, o_ne, o_addL, o_inn, o_nin, o_isn, o_isnn, o_subL, o_subT, o_len, o_lenT, o_tupl, o_list, o_int, o_abs, o_max, o_min, o_gcd, o_sum, o_all, o_any, rb, eqvS, rf_nil, rf_none, rf_some, p_nil, p_none, p_some, a_nm, a_tup, a_nil, a_cons, s_skp, then_nx, then_rt, then_bk, then_ct, s_seq, s_asg, s_fre, s_par, ps_nil, ps_cons, s_exp, s_ret, s_rtn, s_ifs, s_lop, s_brk, s_cnt, s_nvr, s_app, s_set, s_setK, c_lst, ap_lst, si_lst, end_nx, end_rt, oo_nil, oo_0, oo_s, dk_c, dk_m, dk_d, dk_set, dk_can, dk_app, permL, List.filterMap_cons, List.filterMap_nil, List.getElem?_cons_zero, List.getElem?_cons_succ, List.cons_append, List.nil_append, List.append_nil, at0, at1, at2, isi_int, isi_bool, isi_tup, eqvI, Option.some.injEq, exists_eq_left', true_and, and_true, wipeR, Bool.not_true, Bool.not_false, forall_const, List.map_cons, List.map_nil, reduceCtorEq, false_implies, implies_true, true_implies, Bool.true_eq_false, Bool.false_eq_true, eq_self, o_slc, i2_nh]
  refine ⟨by unfold rngOk; exact decide_eq_true (by omega), ?_⟩
  refine loop_inv (I := fun i ρ => ∃ (c : List Int) (s5 s6 s7 s8 s9 : Slot) (d' : PyData), ρ = [some (2, d'), some (0, .list (eP L)), some (0, .int (per L)), some (0, .int n), some (1, .list (eI c)), s5, s6, s7, s8, s9, none] ∧ c.length = i ∧ (∀ x ∈ c, 0 ≤ x ∧ x < (per L : Int)) ∧ Deck (b + 50 * i) d')
    (rangeD 0 n) 0 (fun i dd ρ hdd hI => ?_) ⟨[], none, none, none, none, none, d, rfl, rfl, (fun _ h => nomatch h), hd⟩ (fun ρ' hI => ?_)
  · obtain ⟨rfl, hi⟩ := range_get hdd
    rw [Nat.zero_add] at hI ⊢
    obtain ⟨c, s5, s6, s7, s8, s9, d', rfl, hlen, hrng, hd'⟩ := hI
    simp only [loopB_sat, b_law_numbers_1b, s_law_numbers_1b_0, sOk, sat_bad, own_c0, own_cs, set_c0, set_cs, getS_c0, getS_cs, e_var, e_bor, e_iou, e_mov, e_frz, frz_some, e_cst, e_glb, e_flat, e_op1, e_op2, e_chn, chn_b, e_and, e_or, e_ife, lst_l, e_tup, e_lst, e_nil, e_cons, e_sub, e_key, e_slc, e_nop, e_rev, e_blt, e_call, it_l, it_t, e_comp, e_val, int_i, e_rng1, e_rng2, zip_l, zip_t, e_zip, e_pop, e_dsp, t_b, t_i, o_neg, o_not, o_add, o_sub, o_mul, o_fdv, o_mod, o_pow, o_lt, o_le, o_gt, o_ge, o_eq, o_ne, o_addL, o_inn, o_nin, o_isn, o_isnn, o_subL, o_subT, o_len, o_lenT, o_tupl, o_list, o_int, o_abs, o_max, o_min, o_gcd, o_sum, o_all, o_any, rb, eqvS, rf_nil, rf_none, rf_some, p_nil, p_none, p_some, a_nm, a_tup, a_nil, a_cons, s_skp, then_nx, then_rt, then_bk, then_ct, s_seq, s_asg, s_fre, s_par, ps_nil, ps_cons, s_exp, s_ret, s_rtn, s_ifs, s_lop, s_brk, s_cnt, s_nvr, s_app, s_set, s_setK, c_lst, ap_lst, si_lst, end_nx, end_rt, oo_nil, oo_0, oo_s, dk_c, dk_m, dk_d, dk_set, dk_can, dk_app, permL, List.filterMap_cons, List.filterMap_nil, List.getElem?_cons_zero, List.getElem?_cons_succ, List.cons_append, List.nil_append, List.append_nil, at0, at1, at2, isi_int, isi_bool, isi_tup, eqvI, Option.some.injEq, exists_eq_left', true_and, and_true, wipeR, Bool.not_true, Bool.not_false, forall_const, List.map_cons, List.map_nil, reduceCtorEq, false_implies, implies_true, true_implies, Bool.true_eq_false, Bool.false_eq_true, eq_self, o_slc, i2_nh]
    refine sat_imp (hD _ d' 6 hd' (by omega) (by omega) (by omega)) ?_
    rintro _ ⟨way, d1, rfl, w0, w1, hd1⟩
    simp only [sOk, sat_bad, own_c0, own_cs, set_c0, set_cs, getS_c0, getS_cs, e_var, e_bor, e_iou, e_mov, e_frz, frz_some, e_cst, e_glb, e_flat, e_op1, e_op2, e_chn, chn_b, e_and, e_or, e_ife, lst_l, e_tup, e_lst, e_nil, e_cons, e_sub, e_key, e_slc, e_nop, e_rev, e_blt, e_call, it_l, it_t, e_comp, e_val, int_i, e_rng1, e_rng2, zip_l, zip_t, e_zip, e_pop, e_dsp, t_b, t_i, o_neg, o_not, o_add, o_sub, o_mul, o_fdv, o_mod, o_pow, o_lt, o_le, o_gt, o_ge, o_eq, o_ne, o_addL, o_inn, o_nin, o_isn, o_isnn, o_subL, o_subT, o_len, o_lenT, o_tupl, o_list, o_int, o_abs, o_max, o_min, o_gcd, o_sum, o_all, o_any, rb, eqvS, rf_nil, rf_none, rf_some, p_nil, p_none, p_some, a_nm, a_tup, a_nil, a_cons, s_skp, then_nx, then_rt, then_bk, then_ct, s_seq, s_asg, s_fre, s_par, ps_nil, ps_cons, s_exp, s_ret, s_rtn, s_ifs, s_lop, s_brk, s_cnt, s_nvr, s_app, s_set, s_setK, c_lst, ap_lst, si_lst, end_nx, end_rt, oo_nil, oo_0, oo_s, dk_c, dk_m, dk_d, dk_set, dk_can, dk_app, permL, List.filterMap_cons, List.filterMap_nil, List.getElem?_cons_zero, List.getElem?_cons_succ, List.cons_append, List.nil_append, List.append_nil, at0, at1, at2, isi_int, isi_bool, isi_tup, eqvI, Option.some.injEq, exists_eq_left', true_and, and_true, wipeR, Bool.not_true, Bool.not_false, forall_const, List.map_cons, List.map_nil, reduceCtorEq, false_implies, implies_true, true_implies, Bool.true_eq_false, Bool.false_eq_true, eq_self, o_slc, i2_nh]
    refine sat_imp (hG _ d1 (per L) hd1 (by omega) (by omega) (by omega)) ?_
    rintro _ ⟨v0, d2, rfl, v00, v01, hd2⟩
    simp only [sOk, sat_bad, own_c0, own_cs, set_c0, set_cs, getS_c0, getS_cs, e_var, e_bor, e_iou, e_mov, e_frz, frz_some, e_cst, e_glb, e_flat, e_op1, e_op2, e_chn, chn_b, e_and, e_or, e_ife, lst_l, e_tup, e_lst, e_nil, e_cons, e_sub, e_key, e_slc, e_nop, e_rev, e_blt, e_call, it_l, it_t, e_comp, e_val, int_i, e_rng1, e_rng2, zip_l, zip_t, e_zip, e_pop, e_dsp, t_b, t_i, o_neg, o_not, o_add, o_sub, o_mul, o_fdv, o_mod, o_pow, o_lt, o_le, o_gt, o_ge, o_eq, o_ne, o_addL, o_inn, o_nin, o_isn, o_isnn, o_subL, o_subT, o_len, o_lenT, o_tupl, o_list, o_int, o_abs, o_max, o_min, o_gcd, o_sum, o_all, o_any, rb, eqvS, rf_nil, rf_none, rf_some, p_nil, p_none, p_some, a_nm, a_tup, a_nil, a_cons, s_skp, then_nx, then_rt, then_bk, then_ct, s_seq, s_asg, s_fre, s_par, ps_nil, ps_cons, s_exp, s_ret, s_rtn, s_ifs, s_lop, s_brk, s_cnt, s_nvr, s_app, s_set, s_setK, c_lst, ap_lst, si_lst, end_nx, end_rt, oo_nil, oo_0, oo_s, dk_c, dk_m, dk_d, dk_set, dk_can, dk_app, permL, List.filterMap_cons, List.filterMap_nil, List.getElem?_cons_zero, List.getElem?_cons_succ, List.cons_append, List.nil_append, List.append_nil, at0, at1, at2, isi_int, isi_bool, isi_tup, eqvI, Option.some.injEq, exists_eq_left', true_and, and_true, wipeR, Bool.not_true, Bool.not_false, forall_const, List.map_cons, List.map_nil, reduceCtorEq, false_implies, implies_true, true_implies, Bool.true_eq_false, Bool.false_eq_true, eq_self, o_slc, i2_nh]
    simp only [s_law_numbers_1b_1, sOk, sat_bad, own_c0, own_cs, set_c0, set_cs, getS_c0, getS_cs, e_var, e_bor, e_iou, e_mov, e_frz, frz_some, e_cst, e_glb, e_flat, e_op1, e_op2, e_chn, chn_b, e_and, e_or, e_ife, lst_l, e_tup, e_lst, e_nil, e_cons, e_sub, e_key, e_slc, e_nop, e_rev, e_blt, e_call, it_l, it_t, e_comp, e_val, int_i, e_rng1, e_rng2, zip_l, zip_t, e_zip, e_pop, e_dsp, t_b, t_i, o_neg, o_not, o_add, o_sub, o_mul, o_fdv, o_mod, o_pow, o_lt, o_le, o_gt, o_ge, o_eq, o_ne, o_addL, o_inn, o_nin, o_isn, o_isnn, o_subL, o_subT, o_len, o_lenT, o_tupl, o_list, o_int, o_abs, o_max, o_min, o_gcd, o_sum, o_all, o_any, rb, eqvS, rf_nil, rf_none, rf_some, p_nil, p_none, p_some, a_nm, a_tup, a_nil, a_cons, s_skp, then_nx, then_rt, then_bk, then_ct, s_seq, s_asg, s_fre, s_par, ps_nil, ps_cons, s_exp, s_ret, s_rtn, s_ifs, s_lop, s_brk, s_cnt, s_nvr, s_app, s_set, s_setK, c_lst, ap_lst, si_lst, end_nx, end_rt, oo_nil, oo_0, oo_s, dk_c, dk_m, dk_d, dk_set, dk_can, dk_app, permL, List.filterMap_cons, List.filterMap_nil, List.getElem?_cons_zero, List.getElem?_cons_succ, List.cons_append, List.nil_append, List.append_nil, at0, at1, at2, isi_int, isi_bool, isi_tup, eqvI, Option.some.injEq, exists_eq_left', true_and, and_true, wipeR, Bool.not_true, Bool.not_false, forall_const, List.map_cons, List.map_nil, reduceCtorEq, false_implies, implies_true, true_implies, Bool.true_eq_false, Bool.false_eq_true, eq_self, o_slc, i2_nh]
    refine loop_inv (I := fun j ρ => ∃ (v : Int) (s6 s7 : Slot) (d' : PyData), ρ = [some (2, d'), some (0, .list (eP L)), some (0, .int (per L)), some (0, .int n), some (1, .list (eI c)), some (0, .int (0 + (i : Int))), s6, s7, some (0, .int way), some (0, .int v), none] ∧ 0 ≤ v ∧ v ≤ (((10 ^ 40) ^ (j + 1) : Nat) : Int) ∧ Deck (b + 50 * i + 1 + 20 + 2 * j) d')
      (eP L) 0 (fun j dj ρ hdj hJ => ?_) ⟨v0, s6, s7, d2, rfl, v00, by simp; omega, hd2⟩ (fun ρ' hJ => ?_)
    · rw [Nat.zero_add] at hJ ⊢
      obtain ⟨v, s6, s7, d3, rfl, hv0, hv1, hd3⟩ := hJ
      obtain ⟨x, hx, rfl⟩ := getP hdj
      have hj := lt_of_get hx
      have hxL := List.mem_of_getElem? hx
      have hpb := pr_bd (P.pr x hxL)
      have hqb := q_lt P hxL
      have hp40 := pow40 (j := j + 1) (by omega)
      simp only [loopB_sat, b_law_numbers_1b_1b, s_law_numbers_1b_1b_0, sOk, sat_bad, own_c0, own_cs, set_c0, set_cs, getS_c0, getS_cs, e_var, e_bor, e_iou, e_mov, e_frz, frz_some, e_cst, e_glb, e_flat, e_op1, e_op2, e_chn, chn_b, e_and, e_or, e_ife, lst_l, e_tup, e_lst, e_nil, e_cons, e_sub, e_key, e_slc, e_nop, e_rev, e_blt, e_call, it_l, it_t, e_comp, e_val, int_i, e_rng1, e_rng2, zip_l, zip_t, e_zip, e_pop, e_dsp, t_b, t_i, o_neg, o_not, o_add, o_sub, o_mul, o_fdv, o_mod, o_pow, o_lt, o_le, o_gt, o_ge, o_eq, o_ne, o_addL, o_inn, o_nin, o_isn, o_isnn, o_subL, o_subT, o_len, o_lenT, o_tupl, o_list, o_int, o_abs, o_max, o_min, o_gcd, o_sum, o_all, o_any, rb, eqvS, rf_nil, rf_none, rf_some, p_nil, p_none, p_some, a_nm, a_tup, a_nil, a_cons, s_skp, then_nx, then_rt, then_bk, then_ct, s_seq, s_asg, s_fre, s_par, ps_nil, ps_cons, s_exp, s_ret, s_rtn, s_ifs, s_lop, s_brk, s_cnt, s_nvr, s_app, s_set, s_setK, c_lst, ap_lst, si_lst, end_nx, end_rt, oo_nil, oo_0, oo_s, dk_c, dk_m, dk_d, dk_set, dk_can, dk_app, permL, List.filterMap_cons, List.filterMap_nil, List.getElem?_cons_zero, List.getElem?_cons_succ, List.cons_append, List.nil_append, List.append_nil, at0, at1, at2, isi_int, isi_bool, isi_tup, eqvI, Option.some.injEq, exists_eq_left', true_and, and_true, wipeR, Bool.not_true, Bool.not_false, forall_const, List.map_cons, List.map_nil, reduceCtorEq, false_implies, implies_true, true_implies, Bool.true_eq_false, Bool.false_eq_true, eq_self, o_slc, i2_nh]
      have more : (10 ^ 40) ^ (j + 1) ≤ (10 ^ 40) ^ (j + 1 + 1) := Nat.pow_le_pow_right (by decide) (by omega)
      have stay : ∀ (s6 s7 : Slot) (d4 : PyData), Deck (b + 50 * i + 1 + 20 + 2 * j + 1) d4 → ∃ (v' : Int) (s6' s7' : Slot) (d' : PyData), [some (2, d4), some (0, PyData.list (eP L)), some (0, .int (per L)), some (0, .int n), some (1, .list (eI c)), some (0, .int (0 + (i : Int))), s6, s7, some (0, .int way), some (0, .int v), none] =
          [some (2, d'), some (0, .list (eP L)), some (0, .int (per L)), some (0, .int n), some (1, .list (eI c)), some (0, .int (0 + (i : Int))), s6', s7', some (0, .int way), some (0, .int v'), none] ∧ 0 ≤ v' ∧ v' ≤ (((10 ^ 40) ^ (j + 1 + 1) : Nat) : Int) ∧ Deck (b + 50 * i + 1 + 20 + 2 * (j + 1)) d' :=
        fun s6 s7 d4 h => ⟨v, s6, s7, d4, rfl, hv0, by omega, h.mono (by omega)⟩
      refine ⟨fun hc => ?_, fun h => bF h ⟨.inl trivial, stay _ _ _ (hd3.mono (by omega))⟩⟩
      refine sat_imp (hD _ d3 3 hd3 (by omega) (by omega) (by omega)) ?_
      rintro _ ⟨z, d4, rfl, z0, z1, hd4⟩
      simp only [sOk, sat_bad, own_c0, own_cs, set_c0, set_cs, getS_c0, getS_cs, e_var, e_bor, e_iou, e_mov, e_frz, frz_some, e_cst, e_glb, e_flat, e_op1, e_op2, e_chn, chn_b, e_and, e_or, e_ife, lst_l, e_tup, e_lst, e_nil, e_cons, e_sub, e_key, e_slc, e_nop, e_rev, e_blt, e_call, it_l, it_t, e_comp, e_val, int_i, e_rng1, e_rng2, zip_l, zip_t, e_zip, e_pop, e_dsp, t_b, t_i, o_neg, o_not, o_add, o_sub, o_mul, o_fdv, o_mod, o_pow, o_lt, o_le, o_gt, o_ge, o_eq, o_ne, o_addL, o_inn, o_nin, o_isn, o_isnn, o_subL, o_subT, o_len, o_lenT, o_tupl, o_list, o_int, o_abs, o_max, o_min, o_gcd, o_sum, o_all, o_any, rb, eqvS, rf_nil, rf_none, rf_some, p_nil, p_none, p_some, a_nm, a_tup, a_nil, a_cons, s_skp, then_nx, then_rt, then_bk, then_ct, s_seq, s_asg, s_fre, s_par, ps_nil, ps_cons, s_exp, s_ret, s_rtn, s_ifs, s_lop, s_brk, s_cnt, s_nvr, s_app, s_set, s_setK, c_lst, ap_lst, si_lst, end_nx, end_rt, oo_nil, oo_0, oo_s, dk_c, dk_m, dk_d, dk_set, dk_can, dk_app, permL, List.filterMap_cons, List.filterMap_nil, List.getElem?_cons_zero, List.getElem?_cons_succ, List.cons_append, List.nil_append, List.append_nil, at0, at1, at2, isi_int, isi_bool, isi_tup, eqvI, Option.some.injEq, exists_eq_left', true_and, and_true, wipeR, Bool.not_true, Bool.not_false, forall_const, List.map_cons, List.map_nil, reduceCtorEq, false_implies, implies_true, true_implies, Bool.true_eq_false, Bool.false_eq_true, eq_self, o_slc, i2_nh]
      refine ⟨⟨rfl, rfl⟩, fun _ => ?_, fun _ => ⟨.inl trivial, stay _ _ _ hd4⟩⟩
      simp only [b_law_numbers_1b_1b_0t, s_law_numbers_1b_1b_0t_0, sOk, sat_bad, own_c0, own_cs, set_c0, set_cs, getS_c0, getS_cs, e_var, e_bor, e_iou, e_mov, e_frz, frz_some, e_cst, e_glb, e_flat, e_op1, e_op2, e_chn, chn_b, e_and, e_or, e_ife, lst_l, e_tup, e_lst, e_nil, e_cons, e_sub, e_key, e_slc, e_nop, e_rev, e_blt, e_call, it_l, it_t, e_comp, e_val, int_i, e_rng1, e_rng2, zip_l, zip_t, e_zip, e_pop, e_dsp, t_b, t_i, o_neg, o_not, o_add, o_sub, o_mul, o_fdv, o_mod, o_pow, o_lt, o_le, o_gt, o_ge, o_eq, o_ne, o_addL, o_inn, o_nin, o_isn, o_isnn, o_subL, o_subT, o_len, o_lenT, o_tupl, o_list, o_int, o_abs, o_max, o_min, o_gcd, o_sum, o_all, o_any, rb, eqvS, rf_nil, rf_none, rf_some, p_nil, p_none, p_some, a_nm, a_tup, a_nil, a_cons, s_skp, then_nx, then_rt, then_bk, then_ct, s_seq, s_asg, s_fre, s_par, ps_nil, ps_cons, s_exp, s_ret, s_rtn, s_ifs, s_lop, s_brk, s_cnt, s_nvr, s_app, s_set, s_setK, c_lst, ap_lst, si_lst, end_nx, end_rt, oo_nil, oo_0, oo_s, dk_c, dk_m, dk_d, dk_set, dk_can, dk_app, permL, List.filterMap_cons, List.filterMap_nil, List.getElem?_cons_zero, List.getElem?_cons_succ, List.cons_append, List.nil_append, List.append_nil, at0, at1, at2, isi_int, isi_bool, isi_tup, eqvI, Option.some.injEq, exists_eq_left', true_and, and_true, wipeR, Bool.not_true, Bool.not_false, forall_const, List.map_cons, List.map_nil, reduceCtorEq, false_implies, implies_true, true_implies, Bool.true_eq_false, Bool.false_eq_true, eq_self, o_slc, i2_nh]
      refine ⟨mulOk_of (by omega) (by omega), ⟨by omega, lg (by omega) (by omega)⟩, ?_⟩
      refine sat_imp (hP _ d4 _ hd4 (by omega) (by simp) (by simp)) ?_
      rintro _ ⟨y, d5, rfl, hy, hd5⟩
      have hw : ∃ w : Int, y = .int w ∧ 0 ≤ w ∧ w ≤ 10 ^ 40 := by
        have hpp : (x.1 : Int) * (x.1 : Int) ≤ 30 * 30 := Int.mul_le_mul (by omega) (by omega) (by omega) (by omega)
        have hpp0 : 0 ≤ (x.1 : Int) * (x.1 : Int) := Int.mul_nonneg (by omega) (by omega)
        have hdv0 : 0 ≤ (x.2 : Int) / (x.1 : Int) := Int.ediv_nonneg (by omega) (by omega)
        have hdv : (x.2 : Int) / (x.1 : Int) ≤ x.2 := Int.ediv_le_self _ (by omega)
        simp only [List.mem_cons, List.not_mem_nil, or_false] at hy
        rcases hy with rfl | rfl | rfl | rfl
        · exact ⟨_, rfl, by omega, by omega⟩
        · exact ⟨_, rfl, hpp0, by omega⟩
        · exact ⟨_, rfl, hdv0, by omega⟩
        · exact ⟨_, rfl, by omega, by omega⟩
      obtain ⟨w, rfl, hw0, hw1⟩ := hw
      simp only [sOk, sat_bad, own_c0, own_cs, set_c0, set_cs, getS_c0, getS_cs, e_var, e_bor, e_iou, e_mov, e_frz, frz_some, e_cst, e_glb, e_flat, e_op1, e_op2, e_chn, chn_b, e_and, e_or, e_ife, lst_l, e_tup, e_lst, e_nil, e_cons, e_sub, e_key, e_slc, e_nop, e_rev, e_blt, e_call, it_l, it_t, e_comp, e_val, int_i, e_rng1, e_rng2, zip_l, zip_t, e_zip, e_pop, e_dsp, t_b, t_i, o_neg, o_not, o_add, o_sub, o_mul, o_fdv, o_mod, o_pow, o_lt, o_le, o_gt, o_ge, o_eq, o_ne, o_addL, o_inn, o_nin, o_isn, o_isnn, o_subL, o_subT, o_len, o_lenT, o_tupl, o_list, o_int, o_abs, o_max, o_min, o_gcd, o_sum, o_all, o_any, rb, eqvS, rf_nil, rf_none, rf_some, p_nil, p_none, p_some, a_nm, a_tup, a_nil, a_cons, s_skp, then_nx, then_rt, then_bk, then_ct, s_seq, s_asg, s_fre, s_par, ps_nil, ps_cons, s_exp, s_ret, s_rtn, s_ifs, s_lop, s_brk, s_cnt, s_nvr, s_app, s_set, s_setK, c_lst, ap_lst, si_lst, end_nx, end_rt, oo_nil, oo_0, oo_s, dk_c, dk_m, dk_d, dk_set, dk_can, dk_app, permL, List.filterMap_cons, List.filterMap_nil, List.getElem?_cons_zero, List.getElem?_cons_succ, List.cons_append, List.nil_append, List.append_nil, at0, at1, at2, isi_int, isi_bool, isi_tup, eqvI, Option.some.injEq, exists_eq_left', true_and, and_true, wipeR, Bool.not_true, Bool.not_false, forall_const, List.map_cons, List.map_nil, reduceCtorEq, false_implies, implies_true, true_implies, Bool.true_eq_false, Bool.false_eq_true, eq_self, o_slc, i2_nh]
      refine ⟨mulOk_of (by omega) (by omega), .inl trivial, v * w, _, _, d5, rfl, Int.mul_nonneg hv0 hw0, ?_, hd5.mono (by omega)⟩
      rw [Nat.pow_succ _ (j + 1), Int.natCast_mul]
      exact Int.mul_le_mul hv1 (by omega) hw0 (by omega)
    · obtain ⟨v, s6, s7, d3, rfl, hv0, hv1, hd3⟩ := hJ
      rw [List.length_map] at hd3
      have fin : ∀ z : Int, ∃ (c' : List Int) (s5 s6' s7' s8 s9 : Slot) (d' : PyData), [some (2, d3), some (0, PyData.list (eP L)), some (0, .int (per L)), some (0, .int n), some (1, .list (eI c ++ [.int (z % (per L : Int))])), some (0, .int (0 + (i : Int))), s6, s7, some (0, .int way), some (0, .int v), none] =
          [some (2, d'), some (0, .list (eP L)), some (0, .int (per L)), some (0, .int n), some (1, .list (eI c')), s5, s6', s7', s8, s9, none] ∧ c'.length = i + 1 ∧ (∀ x ∈ c', 0 ≤ x ∧ x < (per L : Int)) ∧ Deck (b + 50 * (i + 1)) d' := fun z => by
        have e : eI c ++ [.int (z % (per L : Int))] = eI (c ++ [z % (per L : Int)]) := by simp only [eI, List.map_append, List.map_cons, List.map_nil]
        rw [e]
        refine ⟨_, _, _, _, _, _, d3, rfl, by rw [List.length_append, hlen]; rfl, fun x hx => ?_, hd3.mono (by omega)⟩
        rcases List.mem_append.mp hx with hx | hx
        · exact hrng x hx
        · rw [List.mem_singleton.mp hx]
          exact ⟨Int.emod_nonneg _ (by omega), Int.emod_lt_of_pos _ (by omega)⟩
      simp only [then_nx, s_law_numbers_1b_2, sOk, sat_bad, own_c0, own_cs, set_c0, set_cs, getS_c0, getS_cs, e_var, e_bor, e_iou, e_mov, e_frz, frz_some, e_cst, e_glb, e_flat, e_op1, e_op2, e_chn, chn_b, e_and, e_or, e_ife, lst_l, e_tup, e_lst, e_nil, e_cons, e_sub, e_key, e_slc, e_nop, e_rev, e_blt, e_call, it_l, it_t, e_comp, e_val, int_i, e_rng1, e_rng2, zip_l, zip_t, e_zip, e_pop, e_dsp, t_b, t_i, o_neg, o_not, o_add, o_sub, o_mul, o_fdv, o_mod, o_pow, o_lt, o_le, o_gt, o_ge, o_eq, o_ne, o_addL, o_inn, o_nin, o_isn, o_isnn, o_subL, o_subT, o_len, o_lenT, o_tupl, o_list, o_int, o_abs, o_max, o_min, o_gcd, o_sum, o_all, o_any, rb, eqvS, rf_nil, rf_none, rf_some, p_nil, p_none, p_some, a_nm, a_tup, a_nil, a_cons, s_skp, then_nx, then_rt, then_bk, then_ct, s_seq, s_asg, s_fre, s_par, ps_nil, ps_cons, s_exp, s_ret, s_rtn, s_ifs, s_lop, s_brk, s_cnt, s_nvr, s_app, s_set, s_setK, c_lst, ap_lst, si_lst, end_nx, end_rt, oo_nil, oo_0, oo_s, dk_c, dk_m, dk_d, dk_set, dk_can, dk_app, permL, List.filterMap_cons, List.filterMap_nil, List.getElem?_cons_zero, List.getElem?_cons_succ, List.cons_append, List.nil_append, List.append_nil, at0, at1, at2, isi_int, isi_bool, isi_tup, eqvI, Option.some.injEq, exists_eq_left', true_and, and_true, wipeR, Bool.not_true, Bool.not_false, forall_const, List.map_cons, List.map_nil, reduceCtorEq, false_implies, implies_true, true_implies, Bool.true_eq_false, Bool.false_eq_true, eq_self, o_slc, i2_nh]
      refine ⟨⟨rfl, rfl⟩, fun _ => ?_, fun _ => ?_⟩
      · exact ⟨by omega, by rw [List.length_map]; omega, .inl trivial, fin 0⟩
      · exact ⟨by omega, by rw [List.length_map]; omega, .inl trivial, fin v⟩
  · obtain ⟨c, s5, s6, s7, s8, s9, d', rfl, hlen, hrng, hd'⟩ := hI
    rw [range_len] at hlen hd'
    have hcn : ((n : Int) - 0).toNat = n := by omega
    rw [hcn, Nat.zero_add] at hlen hd'
    simp only [then_nx, s_law_numbers_2, sOk, sat_bad, own_c0, own_cs, set_c0, set_cs, getS_c0, getS_cs, e_var, e_bor, e_iou, e_mov, e_frz, frz_some, e_cst, e_glb, e_flat, e_op1, e_op2, e_chn, chn_b, e_and, e_or, e_ife, lst_l, e_tup, e_lst, e_nil, e_cons, e_sub, e_key, e_slc, e_nop, e_rev, e_blt, e_call, it_l, it_t, e_comp, e_val, int_i, e_rng1, e_rng2, zip_l, zip_t, e_zip, e_pop, e_dsp, t_b, t_i, o_neg, o_not, o_add, o_sub, o_mul, o_fdv, o_mod, o_pow, o_lt, o_le, o_gt, o_ge, o_eq, o_ne, o_addL, o_inn, o_nin, o_isn, o_isnn, o_subL, o_subT, o_len, o_lenT, o_tupl, o_list, o_int, o_abs, o_max, o_min, o_gcd, o_sum, o_all, o_any, rb, eqvS, rf_nil, rf_none, rf_some, p_nil, p_none, p_some, a_nm, a_tup, a_nil, a_cons, s_skp, then_nx, then_rt, then_bk, then_ct, s_seq, s_asg, s_fre, s_par, ps_nil, ps_cons, s_exp, s_ret, s_rtn, s_ifs, s_lop, s_brk, s_cnt, s_nvr, s_app, s_set, s_setK, c_lst, ap_lst, si_lst, end_nx, end_rt, oo_nil, oo_0, oo_s, dk_c, dk_m, dk_d, dk_set, dk_can, dk_app, permL, List.filterMap_cons, List.filterMap_nil, List.getElem?_cons_zero, List.getElem?_cons_succ, List.cons_append, List.nil_append, List.append_nil, at0, at1, at2, isi_int, isi_bool, isi_tup, eqvI, Option.some.injEq, exists_eq_left', true_and, and_true, wipeR, Bool.not_true, Bool.not_false, forall_const, List.map_cons, List.map_nil, reduceCtorEq, false_implies, implies_true, true_implies, Bool.true_eq_false, Bool.false_eq_true, eq_self, o_slc, i2_nh]
    refine loop_inv (I := fun j ρ => ∃ (c : List Int) (s5 s6 s7 s8 s9 : Slot) (d' : PyData), ρ = [some (2, d'), some (0, .list (eP L)), some (0, .int (per L)), some (0, .int n), some (1, .list (eI c)), s5, s6, s7, s8, s9, none] ∧ c.length = n ∧ (∀ x ∈ c, 0 ≤ x ∧ x < (per L : Int)) ∧ (∀ y ∈ L.take j, ∃ x ∈ c, ¬ (y.1 : Int) ∣ x) ∧ Deck (b + 200 + j) d')
      (eP L) 0 (fun j dj ρ hdj hJ => ?_) ⟨c, s5, s6, s7, s8, s9, d', rfl, hlen, hrng, (fun y hy => by simp at hy), hd'.mono (by omega)⟩ (fun ρ' hJ => ?_)
    · rw [Nat.zero_add] at hJ ⊢
      clear hrng hlen hd'
      obtain ⟨c, s5, s6, s7, s8, s9, d1, rfl, hlen, hrng, hcop, hd1⟩ := hJ
      obtain ⟨x, hx, rfl⟩ := getP hdj
      have hj := lt_of_get hx
      have hxL := List.mem_of_getElem? hx
      have hpb := pr_bd (P.pr x hxL)
      have hqb := q_lt P hxL
      obtain ⟨r, hr, hrl, hr1, hr2⟩ := rest_int P hxL
      simp only [loopB_sat, b_law_numbers_2b, s_law_numbers_2b_0, sOk, sat_bad, own_c0, own_cs, set_c0, set_cs, getS_c0, getS_cs, e_var, e_bor, e_iou, e_mov, e_frz, frz_some, e_cst, e_glb, e_flat, e_op1, e_op2, e_chn, chn_b, e_and, e_or, e_ife, lst_l, e_tup, e_lst, e_nil, e_cons, e_sub, e_key, e_slc, e_nop, e_rev, e_blt, e_call, it_l, it_t, e_comp, e_val, int_i, e_rng1, e_rng2, zip_l, zip_t, e_zip, e_pop, e_dsp, t_b, t_i, o_neg, o_not, o_add, o_sub, o_mul, o_fdv, o_mod, o_pow, o_lt, o_le, o_gt, o_ge, o_eq, o_ne, o_addL, o_inn, o_nin, o_isn, o_isnn, o_subL, o_subT, o_len, o_lenT, o_tupl, o_list, o_int, o_abs, o_max, o_min, o_gcd, o_sum, o_all, o_any, rb, eqvS, rf_nil, rf_none, rf_some, p_nil, p_none, p_some, a_nm, a_tup, a_nil, a_cons, s_skp, then_nx, then_rt, then_bk, then_ct, s_seq, s_asg, s_fre, s_par, ps_nil, ps_cons, s_exp, s_ret, s_rtn, s_ifs, s_lop, s_brk, s_cnt, s_nvr, s_app, s_set, s_setK, c_lst, ap_lst, si_lst, end_nx, end_rt, oo_nil, oo_0, oo_s, dk_c, dk_m, dk_d, dk_set, dk_can, dk_app, permL, List.filterMap_cons, List.filterMap_nil, List.getElem?_cons_zero, List.getElem?_cons_succ, List.cons_append, List.nil_append, List.append_nil, at0, at1, at2, isi_int, isi_bool, isi_tup, eqvI, Option.some.injEq, exists_eq_left', true_and, and_true, wipeR, Bool.not_true, Bool.not_false, forall_const, List.map_cons, List.map_nil, reduceCtorEq, false_implies, implies_true, true_implies, Bool.true_eq_false, Bool.false_eq_true, eq_self, o_slc, i2_nh]
      refine ⟨⟨rfl, by rw [List.length_map]; omega⟩, ?_⟩
      refine cfilt (.int) (fun a => if decide (0 < a % (x.1 : Int)) = true then some (.int a) else none) c (fun a ha => ?_) ?_
      · simp only [compB_sat, sOk, sat_bad, own_c0, own_cs, set_c0, set_cs, getS_c0, getS_cs, e_var, e_bor, e_iou, e_mov, e_frz, frz_some, e_cst, e_glb, e_flat, e_op1, e_op2, e_chn, chn_b, e_and, e_or, e_ife, lst_l, e_tup, e_lst, e_nil, e_cons, e_sub, e_key, e_slc, e_nop, e_rev, e_blt, e_call, it_l, it_t, e_comp, e_val, int_i, e_rng1, e_rng2, zip_l, zip_t, e_zip, e_pop, e_dsp, t_b, t_i, o_neg, o_not, o_add, o_sub, o_mul, o_fdv, o_mod, o_pow, o_lt, o_le, o_gt, o_ge, o_eq, o_ne, o_addL, o_inn, o_nin, o_isn, o_isnn, o_subL, o_subT, o_len, o_lenT, o_tupl, o_list, o_int, o_abs, o_max, o_min, o_gcd, o_sum, o_all, o_any, rb, eqvS, rf_nil, rf_none, rf_some, p_nil, p_none, p_some, a_nm, a_tup, a_nil, a_cons, s_skp, then_nx, then_rt, then_bk, then_ct, s_seq, s_asg, s_fre, s_par, ps_nil, ps_cons, s_exp, s_ret, s_rtn, s_ifs, s_lop, s_brk, s_cnt, s_nvr, s_app, s_set, s_setK, c_lst, ap_lst, si_lst, end_nx, end_rt, oo_nil, oo_0, oo_s, dk_c, dk_m, dk_d, dk_set, dk_can, dk_app, permL, List.filterMap_cons, List.filterMap_nil, List.getElem?_cons_zero, List.getElem?_cons_succ, List.cons_append, List.nil_append, List.append_nil, at0, at1, at2, isi_int, isi_bool, isi_tup, eqvI, Option.some.injEq, exists_eq_left', true_and, and_true, wipeR, Bool.not_true, Bool.not_false, forall_const, List.map_cons, List.map_nil, reduceCtorEq, false_implies, implies_true, true_implies, Bool.true_eq_false, Bool.false_eq_true, eq_self, o_slc, i2_nh]
        refine ⟨by omega, fun h => ?_, fun h => ?_⟩
        · rw [if_pos h]
        · rw [if_neg (by rw [h]; decide)]
      · rw [filt_eI (fun a => decide (0 < a % (x.1 : Int)))]
        simp only [sOk, sat_bad, own_c0, own_cs, set_c0, set_cs, getS_c0, getS_cs, e_var, e_bor, e_iou, e_mov, e_frz, frz_some, e_cst, e_glb, e_flat, e_op1, e_op2, e_chn, chn_b, e_and, e_or, e_ife, lst_l, e_tup, e_lst, e_nil, e_cons, e_sub, e_key, e_slc, e_nop, e_rev, e_blt, e_call, it_l, it_t, e_comp, e_val, int_i, e_rng1, e_rng2, zip_l, zip_t, e_zip, e_pop, e_dsp, t_b, t_i, o_neg, o_not, o_add, o_sub, o_mul, o_fdv, o_mod, o_pow, o_lt, o_le, o_gt, o_ge, o_eq, o_ne, o_addL, o_inn, o_nin, o_isn, o_isnn, o_subL, o_subT, o_len, o_lenT, o_tupl, o_list, o_int, o_abs, o_max, o_min, o_gcd, o_sum, o_all, o_any, rb, eqvS, rf_nil, rf_none, rf_some, p_nil, p_none, p_some, a_nm, a_tup, a_nil, a_cons, s_skp, then_nx, then_rt, then_bk, then_ct, s_seq, s_asg, s_fre, s_par, ps_nil, ps_cons, s_exp, s_ret, s_rtn, s_ifs, s_lop, s_brk, s_cnt, s_nvr, s_app, s_set, s_setK, c_lst, ap_lst, si_lst, end_nx, end_rt, oo_nil, oo_0, oo_s, dk_c, dk_m, dk_d, dk_set, dk_can, dk_app, permL, List.filterMap_cons, List.filterMap_nil, List.getElem?_cons_zero, List.getElem?_cons_succ, List.cons_append, List.nil_append, List.append_nil, at0, at1, at2, isi_int, isi_bool, isi_tup, eqvI, Option.some.injEq, exists_eq_left', true_and, and_true, wipeR, Bool.not_true, Bool.not_false, forall_const, List.map_cons, List.map_nil, reduceCtorEq, false_implies, implies_true, true_implies, Bool.true_eq_false, Bool.false_eq_true, eq_self, o_slc, i2_nh, eqvNil]
        refine ⟨⟨shapedI _, shNil⟩, fun h => ?_, fun h => ?_⟩
        · have hz : ∀ a ∈ c, (x.1 : Int) ∣ a := fun a ha => by
            have h1 : c.filter (fun a => decide (0 < a % (x.1 : Int))) = [] := List.isEmpty_iff.mp h
            have h2 := List.filter_eq_nil_iff.mp h1 a ha
            have h3 := Int.emod_nonneg a (b := (x.1 : Int)) (by omega)
            have h4 : ¬ 0 < a % (x.1 : Int) := fun q => h2 (decide_eq_true q)
            exact Int.dvd_of_emod_eq_zero (by omega)
          simp only [b_law_numbers_2b_0t, s_law_numbers_2b_0t_0, sOk, sat_bad, own_c0, own_cs, set_c0, set_cs, getS_c0, getS_cs, e_var, e_bor, e_iou, e_mov, e_frz, frz_some, e_cst, e_glb, e_flat, e_op1, e_op2, e_chn, chn_b, e_and, e_or, e_ife, lst_l, e_tup, e_lst, e_nil, e_cons, e_sub, e_key, e_slc, e_nop, e_rev, e_blt, e_call, it_l, it_t, e_comp, e_val, int_i, e_rng1, e_rng2, zip_l, zip_t, e_zip, e_pop, e_dsp, t_b, t_i, o_neg, o_not, o_add, o_sub, o_mul, o_fdv, o_mod, o_pow, o_lt, o_le, o_gt, o_ge, o_eq, o_ne, o_addL, o_inn, o_nin, o_isn, o_isnn, o_subL, o_subT, o_len, o_lenT, o_tupl, o_list, o_int, o_abs, o_max, o_min, o_gcd, o_sum, o_all, o_any, rb, eqvS, rf_nil, rf_none, rf_some, p_nil, p_none, p_some, a_nm, a_tup, a_nil, a_cons, s_skp, then_nx, then_rt, then_bk, then_ct, s_seq, s_asg, s_fre, s_par, ps_nil, ps_cons, s_exp, s_ret, s_rtn, s_ifs, s_lop, s_brk, s_cnt, s_nvr, s_app, s_set, s_setK, c_lst, ap_lst, si_lst, end_nx, end_rt, oo_nil, oo_0, oo_s, dk_c, dk_m, dk_d, dk_set, dk_can, dk_app, permL, List.filterMap_cons, List.filterMap_nil, List.getElem?_cons_zero, List.getElem?_cons_succ, List.cons_append, List.nil_append, List.append_nil, at0, at1, at2, isi_int, isi_bool, isi_tup, eqvI, Option.some.injEq, exists_eq_left', true_and, and_true, wipeR, Bool.not_true, Bool.not_false, forall_const, List.map_cons, List.map_nil, reduceCtorEq, false_implies, implies_true, true_implies, Bool.true_eq_false, Bool.false_eq_true, eq_self, o_slc, i2_nh]
          refine sat_imp (hD _ d1 n hd1 (by omega) (by omega) (by omega)) ?_
          rintro _ ⟨at_, d2, rfl, a0, a1, hd2⟩
          simp only [sOk, sat_bad, own_c0, own_cs, set_c0, set_cs, getS_c0, getS_cs, e_var, e_bor, e_iou, e_mov, e_frz, frz_some, e_cst, e_glb, e_flat, e_op1, e_op2, e_chn, chn_b, e_and, e_or, e_ife, lst_l, e_tup, e_lst, e_nil, e_cons, e_sub, e_key, e_slc, e_nop, e_rev, e_blt, e_call, it_l, it_t, e_comp, e_val, int_i, e_rng1, e_rng2, zip_l, zip_t, e_zip, e_pop, e_dsp, t_b, t_i, o_neg, o_not, o_add, o_sub, o_mul, o_fdv, o_mod, o_pow, o_lt, o_le, o_gt, o_ge, o_eq, o_ne, o_addL, o_inn, o_nin, o_isn, o_isnn, o_subL, o_subT, o_len, o_lenT, o_tupl, o_list, o_int, o_abs, o_max, o_min, o_gcd, o_sum, o_all, o_any, rb, eqvS, rf_nil, rf_none, rf_some, p_nil, p_none, p_some, a_nm, a_tup, a_nil, a_cons, s_skp, then_nx, then_rt, then_bk, then_ct, s_seq, s_asg, s_fre, s_par, ps_nil, ps_cons, s_exp, s_ret, s_rtn, s_ifs, s_lop, s_brk, s_cnt, s_nvr, s_app, s_set, s_setK, c_lst, ap_lst, si_lst, end_nx, end_rt, oo_nil, oo_0, oo_s, dk_c, dk_m, dk_d, dk_set, dk_can, dk_app, permL, List.filterMap_cons, List.filterMap_nil, List.getElem?_cons_zero, List.getElem?_cons_succ, List.cons_append, List.nil_append, List.append_nil, at0, at1, at2, isi_int, isi_bool, isi_tup, eqvI, Option.some.injEq, exists_eq_left', true_and, and_true, wipeR, Bool.not_true, Bool.not_false, forall_const, List.map_cons, List.map_nil, reduceCtorEq, false_implies, implies_true, true_implies, Bool.true_eq_false, Bool.false_eq_true, eq_self, o_slc, i2_nh]
          have hat : at_.toNat < c.length := by omega
          simp only [s_law_numbers_2b_0t_1, sOk, sat_bad, own_c0, own_cs, set_c0, set_cs, getS_c0, getS_cs, e_var, e_bor, e_iou, e_mov, e_frz, frz_some, e_cst, e_glb, e_flat, e_op1, e_op2, e_chn, chn_b, e_and, e_or, e_ife, lst_l, e_tup, e_lst, e_nil, e_cons, e_sub, e_key, e_slc, e_nop, e_rev, e_blt, e_call, it_l, it_t, e_comp, e_val, int_i, e_rng1, e_rng2, zip_l, zip_t, e_zip, e_pop, e_dsp, t_b, t_i, o_neg, o_not, o_add, o_sub, o_mul, o_fdv, o_mod, o_pow, o_lt, o_le, o_gt, o_ge, o_eq, o_ne, o_addL, o_inn, o_nin, o_isn, o_isnn, o_subL, o_subT, o_len, o_lenT, o_tupl, o_list, o_int, o_abs, o_max, o_min, o_gcd, o_sum, o_all, o_any, rb, eqvS, rf_nil, rf_none, rf_some, p_nil, p_none, p_some, a_nm, a_tup, a_nil, a_cons, s_skp, then_nx, then_rt, then_bk, then_ct, s_seq, s_asg, s_fre, s_par, ps_nil, ps_cons, s_exp, s_ret, s_rtn, s_ifs, s_lop, s_brk, s_cnt, s_nvr, s_app, s_set, s_setK, c_lst, ap_lst, si_lst, end_nx, end_rt, oo_nil, oo_0, oo_s, dk_c, dk_m, dk_d, dk_set, dk_can, dk_app, permL, List.filterMap_cons, List.filterMap_nil, List.getElem?_cons_zero, List.getElem?_cons_succ, List.cons_append, List.nil_append, List.append_nil, at0, at1, at2, isi_int, isi_bool, isi_tup, eqvI, Option.some.injEq, exists_eq_left', true_and, and_true, wipeR, Bool.not_true, Bool.not_false, forall_const, List.map_cons, List.map_nil, reduceCtorEq, false_implies, implies_true, true_implies, Bool.true_eq_false, Bool.false_eq_true, eq_self, o_slc, i2_nh, atI_I a0 (show at_ < (c.length : Int) by omega), hr]
          refine ⟨⟨by omega, lg (by omega) (by omega)⟩, by omega, at_.toNat, ixN_ok a0 (by rw [List.length_map]; omega), ?_⟩
          rw [set_eI]
          refine ⟨.inl trivial, _, _, _, _, _, _, d2, rfl, by rw [List.length_set]; exact hlen, fun z hz => ?_, fun y hy => ?_, hd2⟩
          · rcases List.mem_or_eq_of_mem_set hz with hz | rfl
            · exact hrng z hz
            · exact ⟨Int.emod_nonneg _ (by omega), Int.emod_lt_of_pos _ (by omega)⟩
          · have new : c.set at_.toNat ((c[at_.toNat] + (r : Int)) % (per L : Int)) = c.set at_.toNat ((c[at_.toNat] + (r : Int)) % (per L : Int)) := rfl
            have memNew : (c[at_.toNat] + (r : Int)) % (per L : Int) ∈ c.set at_.toNat ((c[at_.toNat] + (r : Int)) % (per L : Int)) := List.mem_set hat _
            rw [take_snoc hx] at hy
            rcases List.mem_append.mp hy with hy | hy
            · have hyL := List.mem_of_mem_take hy
              obtain ⟨z, hz1, hz2⟩ := hcop y hy
              obtain ⟨t, ht, rfl⟩ := List.mem_iff_getElem.mp hz1
              by_cases e : t = at_.toNat
              · subst e
                refine ⟨_, memNew, fun dv => hz2 ?_⟩
                have d1 := (dvd_mod (P.dvdI hyL)).mp dv
                exact (Int.dvd_add_left (hr2 y hyL (before_ne P hx hy))).mp d1
              · refine ⟨c[t], ?_, hz2⟩
                rw [List.mem_iff_getElem]
                exact ⟨t, by rw [List.length_set]; exact ht, by rw [List.getElem_set_ne (Ne.symm e)]⟩
            · rw [List.mem_singleton.mp hy]
              refine ⟨_, memNew, fun dv => hr1 ?_⟩
              have d1 := (dvd_mod (P.dvdI hxL)).mp dv
              exact (Int.dvd_add_right (hz _ (List.getElem_mem hat))).mp d1
        · refine ⟨.inl trivial, c, _, _, _, _, _, d1, rfl, hlen, hrng, fun y hy => ?_, hd1.mono (by omega)⟩
          rw [take_snoc hx] at hy
          rcases List.mem_append.mp hy with hy | hy
          · exact hcop y hy
          · rw [List.mem_singleton.mp hy]
            have h1 : c.filter (fun a => decide (0 < a % (x.1 : Int))) ≠ [] := fun e => by
              rw [e] at h
              cases h
            obtain ⟨a, ha⟩ := List.exists_mem_of_ne_nil _ h1
            have ha := List.mem_filter.mp ha
            refine ⟨a, ha.1, fun dv => ?_⟩
            have := of_decide_eq_true ha.2
            rw [Int.emod_eq_zero_of_dvd dv] at this
            omega
    · obtain ⟨c, s5, s6, s7, s8, s9, d1, rfl, hlen, hrng, hcop, hd1⟩ := hJ
      rw [List.length_map, Nat.zero_add] at hcop hd1
      rw [List.take_length] at hcop
      simp only [then_nx, s_law_numbers_3, sOk, sat_bad, own_c0, own_cs, set_c0, set_cs, getS_c0, getS_cs, e_var, e_bor, e_iou, e_mov, e_frz, frz_some, e_cst, e_glb, e_flat, e_op1, e_op2, e_chn, chn_b, e_and, e_or, e_ife, lst_l, e_tup, e_lst, e_nil, e_cons, e_sub, e_key, e_slc, e_nop, e_rev, e_blt, e_call, it_l, it_t, e_comp, e_val, int_i, e_rng1, e_rng2, zip_l, zip_t, e_zip, e_pop, e_dsp, t_b, t_i, o_neg, o_not, o_add, o_sub, o_mul, o_fdv, o_mod, o_pow, o_lt, o_le, o_gt, o_ge, o_eq, o_ne, o_addL, o_inn, o_nin, o_isn, o_isnn, o_subL, o_subT, o_len, o_lenT, o_tupl, o_list, o_int, o_abs, o_max, o_min, o_gcd, o_sum, o_all, o_any, rb, eqvS, rf_nil, rf_none, rf_some, p_nil, p_none, p_some, a_nm, a_tup, a_nil, a_cons, s_skp, then_nx, then_rt, then_bk, then_ct, s_seq, s_asg, s_fre, s_par, ps_nil, ps_cons, s_exp, s_ret, s_rtn, s_ifs, s_lop, s_brk, s_cnt, s_nvr, s_app, s_set, s_setK, c_lst, ap_lst, si_lst, end_nx, end_rt, oo_nil, oo_0, oo_s, dk_c, dk_m, dk_d, dk_set, dk_can, dk_app, permL, List.filterMap_cons, List.filterMap_nil, List.getElem?_cons_zero, List.getElem?_cons_succ, List.cons_append, List.nil_append, List.append_nil, at0, at1, at2, isi_int, isi_bool, isi_tup, eqvI, Option.some.injEq, exists_eq_left', true_and, and_true, wipeR, Bool.not_true, Bool.not_false, forall_const, List.map_cons, List.map_nil, reduceCtorEq, false_implies, implies_true, true_implies, Bool.true_eq_false, Bool.false_eq_true, eq_self, o_slc, i2_nh]
      exact ⟨c, d1, rfl, ⟨by omega, hrng, hcop⟩, hlen, hd1.mono (by omega)⟩
theorem unit_ok (hG : GreatOk (G i_law_great)) : UnitOk (runDf G fu d_law_unit) := by
  intro b d L P hd hb
  have hT : TOP = 10 ^ 60 := rfl
  have htop : per L < 10 ^ 40 := P.top
  have hpos := P.pos
  have hfew := P.few
  rw [s_run rfl]
  show (exS G fu d_law_unit.body [some (2, d), some (0, .list (eP L)), some (0, .int (per L)), none, none, none]).sat (endB [2, 0, 0] _)
  simp only [d_law_unit, s_law_unit_0, sOk, sat_bad, own_c0, own_cs, set_c0, set_cs, getS_c0, getS_cs, e_var, e_bor, e_iou, e_mov, e_frz, frz_some, e_cst, e_glb, e_flat, e_op1, e_op2, e_chn, chn_b, e_and, e_or, e_ife, lst_l, e_tup, e_lst, e_nil, e_cons, e_sub, e_key, e_slc, e_nop, e_rev, e_blt, e_call, it_l, it_t, e_comp, e_val, int_i, e_rng1, e_rng2, zip_l, zip_t, e_zip, e_pop, e_dsp, t_b, t_i, o_neg, o_not, o_add, o_sub, o_mul, o_fdv, o_mod, o_pow, o_lt, o_le, o_gt, o_ge, o_eq, o_ne, o_addL, o_inn, o_nin, o_isn, o_isnn, o_subL, o_subT, o_len, o_lenT, o_tupl, o_list, o_int, o_abs, o_max, o_min, o_gcd, o_sum, o_all, o_any, rb, eqvS, rf_nil, rf_none, rf_some, p_nil, p_none, p_some, a_nm, a_tup, a_nil, a_cons, s_skp, then_nx, then_rt, then_bk, then_ct, s_seq, s_asg, s_fre, s_par, ps_nil, ps_cons, s_exp, s_ret, s_rtn, s_ifs, s_lop, s_brk, s_cnt, s_nvr, s_app, s_set, s_setK, c_lst, ap_lst, si_lst, end_nx, end_rt, oo_nil, oo_0, oo_s, dk_c, dk_m, dk_d, dk_set, dk_can, dk_app, permL, List.filterMap_cons, List.filterMap_nil, List.getElem?_cons_zero, List.getElem?_cons_succ, List.cons_append, List.nil_append, List.append_nil, at0, at1, at2, isi_int, isi_bool, isi_tup, eqvI, Option.some.injEq, exists_eq_left', true_and, and_true, wipeR, Bool.not_true, Bool.not_false, forall_const, List.map_cons, List.map_nil, reduceCtorEq, false_implies, implies_true, true_implies, Bool.true_eq_false, Bool.false_eq_true, eq_self, o_slc, i2_nh]
  refine sat_imp (hG _ d (per L) hd (by omega) (by omega) (by omega)) ?_
  rintro _ ⟨v0, d2, rfl, v00, v01, hd2⟩
  simp only [sOk, sat_bad, own_c0, own_cs, set_c0, set_cs, getS_c0, getS_cs, e_var, e_bor, e_iou, e_mov, e_frz, frz_some, e_cst, e_glb, e_flat, e_op1, e_op2, e_chn, chn_b, e_and, e_or, e_ife, lst_l, e_tup, e_lst, e_nil, e_cons, e_sub, e_key, e_slc, e_nop, e_rev, e_blt, e_call, it_l, it_t, e_comp, e_val, int_i, e_rng1, e_rng2, zip_l, zip_t, e_zip, e_pop, e_dsp, t_b, t_i, o_neg, o_not, o_add, o_sub, o_mul, o_fdv, o_mod, o_pow, o_lt, o_le, o_gt, o_ge, o_eq, o_ne, o_addL, o_inn, o_nin, o_isn, o_isnn, o_subL, o_subT, o_len, o_lenT, o_tupl, o_list, o_int, o_abs, o_max, o_min, o_gcd, o_sum, o_all, o_any, rb, eqvS, rf_nil, rf_none, rf_some, p_nil, p_none, p_some, a_nm, a_tup, a_nil, a_cons, s_skp, then_nx, then_rt, then_bk, then_ct, s_seq, s_asg, s_fre, s_par, ps_nil, ps_cons, s_exp, s_ret, s_rtn, s_ifs, s_lop, s_brk, s_cnt, s_nvr, s_app, s_set, s_setK, c_lst, ap_lst, si_lst, end_nx, end_rt, oo_nil, oo_0, oo_s, dk_c, dk_m, dk_d, dk_set, dk_can, dk_app, permL, List.filterMap_cons, List.filterMap_nil, List.getElem?_cons_zero, List.getElem?_cons_succ, List.cons_append, List.nil_append, List.append_nil, at0, at1, at2, isi_int, isi_bool, isi_tup, eqvI, Option.some.injEq, exists_eq_left', true_and, and_true, wipeR, Bool.not_true, Bool.not_false, forall_const, List.map_cons, List.map_nil, reduceCtorEq, false_implies, implies_true, true_implies, Bool.true_eq_false, Bool.false_eq_true, eq_self, o_slc, i2_nh]
  simp only [s_law_unit_1, sOk, sat_bad, own_c0, own_cs, set_c0, set_cs, getS_c0, getS_cs, e_var, e_bor, e_iou, e_mov, e_frz, frz_some, e_cst, e_glb, e_flat, e_op1, e_op2, e_chn, chn_b, e_and, e_or, e_ife, lst_l, e_tup, e_lst, e_nil, e_cons, e_sub, e_key, e_slc, e_nop, e_rev, e_blt, e_call, it_l, it_t, e_comp, e_val, int_i, e_rng1, e_rng2, zip_l, zip_t, e_zip, e_pop, e_dsp, t_b, t_i, o_neg, o_not, o_add, o_sub, o_mul, o_fdv, o_mod, o_pow, o_lt, o_le, o_gt, o_ge, o_eq, o_ne, o_addL, o_inn, o_nin, o_isn, o_isnn, o_subL, o_subT, o_len, o_lenT, o_tupl, o_list, o_int, o_abs, o_max, o_min, o_gcd, o_sum, o_all, o_any, rb, eqvS, rf_nil, rf_none, rf_some, p_nil, p_none, p_some, a_nm, a_tup, a_nil, a_cons, s_skp, then_nx, then_rt, then_bk, then_ct, s_seq, s_asg, s_fre, s_par, ps_nil, ps_cons, s_exp, s_ret, s_rtn, s_ifs, s_lop, s_brk, s_cnt, s_nvr, s_app, s_set, s_setK, c_lst, ap_lst, si_lst, end_nx, end_rt, oo_nil, oo_0, oo_s, dk_c, dk_m, dk_d, dk_set, dk_can, dk_app, permL, List.filterMap_cons, List.filterMap_nil, List.getElem?_cons_zero, List.getElem?_cons_succ, List.cons_append, List.nil_append, List.append_nil, at0, at1, at2, isi_int, isi_bool, isi_tup, eqvI, Option.some.injEq, exists_eq_left', true_and, and_true, wipeR, Bool.not_true, Bool.not_false, forall_const, List.map_cons, List.map_nil, reduceCtorEq, false_implies, implies_true, true_implies, Bool.true_eq_false, Bool.false_eq_true, eq_self, o_slc, i2_nh]
  refine loop_inv (I := fun j ρ => ∃ (v : Int) (s4 s5 : Slot), ρ = [some (2, d2), some (0, .list (eP L)), some (0, .int (per L)), some (0, .int v), s4, s5] ∧ 0 ≤ v ∧ v ≤ (per L : Int) * (j + 1) ∧ ∀ y ∈ L.take j, ¬ (y.1 : Int) ∣ v)
    (eP L) 0 (fun j dj ρ hdj hJ => ?_) ⟨v0, none, none, rfl, v00, by omega, (fun y hy => by simp at hy)⟩ (fun ρ' hJ => ?_)
  · rw [Nat.zero_add] at hJ ⊢
    obtain ⟨v, s4, s5, rfl, hv0, hv1, hcop⟩ := hJ
    obtain ⟨x, hx, rfl⟩ := getP hdj
    have hj := lt_of_get hx
    have hxL := List.mem_of_getElem? hx
    have hpb := pr_bd (P.pr x hxL)
    have hqb := q_lt P hxL
    obtain ⟨r, hr, hrl, hr1, hr2⟩ := rest_int P hxL
    have e1 : (per L : Int) * (((j + 1 : Nat) : Int) + 1) = (per L : Int) * ((j : Int) + 1) + (per L : Int) := by
      rw [show ((j + 1 : Nat) : Int) + 1 = ((j : Int) + 1) + 1 by omega, Int.mul_add, Int.mul_one]
    simp only [loopB_sat, b_law_unit_1b, s_law_unit_1b_0, sOk, sat_bad, own_c0, own_cs, set_c0, set_cs, getS_c0, getS_cs, e_var, e_bor, e_iou, e_mov, e_frz, frz_some, e_cst, e_glb, e_flat, e_op1, e_op2, e_chn, chn_b, e_and, e_or, e_ife, lst_l, e_tup, e_lst, e_nil, e_cons, e_sub, e_key, e_slc, e_nop, e_rev, e_blt, e_call, it_l, it_t, e_comp, e_val, int_i, e_rng1, e_rng2, zip_l, zip_t, e_zip, e_pop, e_dsp, t_b, t_i, o_neg, o_not, o_add, o_sub, o_mul, o_fdv, o_mod, o_pow, o_lt, o_le, o_gt, o_ge, o_eq, o_ne, o_addL, o_inn, o_nin, o_isn, o_isnn, o_subL, o_subT, o_len, o_lenT, o_tupl, o_list, o_int, o_abs, o_max, o_min, o_gcd, o_sum, o_all, o_any, rb, eqvS, rf_nil, rf_none, rf_some, p_nil, p_none, p_some, a_nm, a_tup, a_nil, a_cons, s_skp, then_nx, then_rt, then_bk, then_ct, s_seq, s_asg, s_fre, s_par, ps_nil, ps_cons, s_exp, s_ret, s_rtn, s_ifs, s_lop, s_brk, s_cnt, s_nvr, s_app, s_set, s_setK, c_lst, ap_lst, si_lst, end_nx, end_rt, oo_nil, oo_0, oo_s, dk_c, dk_m, dk_d, dk_set, dk_can, dk_app, permL, List.filterMap_cons, List.filterMap_nil, List.getElem?_cons_zero, List.getElem?_cons_succ, List.cons_append, List.nil_append, List.append_nil, at0, at1, at2, isi_int, isi_bool, isi_tup, eqvI, Option.some.injEq, exists_eq_left', true_and, and_true, wipeR, Bool.not_true, Bool.not_false, forall_const, List.map_cons, List.map_nil, reduceCtorEq, false_implies, implies_true, true_implies, Bool.true_eq_false, Bool.false_eq_true, eq_self, o_slc, i2_nh]
    refine ⟨by omega, ⟨rfl, rfl⟩, fun h => ?_, fun h => ?_⟩
    · have h := Int.dvd_of_emod_eq_zero (of_decide_eq_true h)
      simp only [b_law_unit_1b_0t, s_law_unit_1b_0t_0, sOk, sat_bad, own_c0, own_cs, set_c0, set_cs, getS_c0, getS_cs, e_var, e_bor, e_iou, e_mov, e_frz, frz_some, e_cst, e_glb, e_flat, e_op1, e_op2, e_chn, chn_b, e_and, e_or, e_ife, lst_l, e_tup, e_lst, e_nil, e_cons, e_sub, e_key, e_slc, e_nop, e_rev, e_blt, e_call, it_l, it_t, e_comp, e_val, int_i, e_rng1, e_rng2, zip_l, zip_t, e_zip, e_pop, e_dsp, t_b, t_i, o_neg, o_not, o_add, o_sub, o_mul, o_fdv, o_mod, o_pow, o_lt, o_le, o_gt, o_ge, o_eq, o_ne, o_addL, o_inn, o_nin, o_isn, o_isnn, o_subL, o_subT, o_len, o_lenT, o_tupl, o_list, o_int, o_abs, o_max, o_min, o_gcd, o_sum, o_all, o_any, rb, eqvS, rf_nil, rf_none, rf_some, p_nil, p_none, p_some, a_nm, a_tup, a_nil, a_cons, s_skp, then_nx, then_rt, then_bk, then_ct, s_seq, s_asg, s_fre, s_par, ps_nil, ps_cons, s_exp, s_ret, s_rtn, s_ifs, s_lop, s_brk, s_cnt, s_nvr, s_app, s_set, s_setK, c_lst, ap_lst, si_lst, end_nx, end_rt, oo_nil, oo_0, oo_s, dk_c, dk_m, dk_d, dk_set, dk_can, dk_app, permL, List.filterMap_cons, List.filterMap_nil, List.getElem?_cons_zero, List.getElem?_cons_succ, List.cons_append, List.nil_append, List.append_nil, at0, at1, at2, isi_int, isi_bool, isi_tup, eqvI, Option.some.injEq, exists_eq_left', true_and, and_true, wipeR, Bool.not_true, Bool.not_false, forall_const, List.map_cons, List.map_nil, reduceCtorEq, false_implies, implies_true, true_implies, Bool.true_eq_false, Bool.false_eq_true, eq_self, o_slc, i2_nh, hr]
      refine ⟨⟨by omega, lg (by omega) (by omega)⟩, .inl trivial, _, _, _, rfl, by omega, by omega, fun y hy dv => ?_⟩
      rw [take_snoc hx] at hy
      rcases List.mem_append.mp hy with hy | hy
      · exact hcop y hy ((Int.dvd_add_left (hr2 y (List.mem_of_mem_take hy) (before_ne P hx hy))).mp dv)
      · rw [List.mem_singleton.mp hy] at dv
        exact hr1 ((Int.dvd_add_right h).mp dv)
    · have h : ¬ (x.1 : Int) ∣ v := fun dv => of_decide_eq_false h (Int.emod_eq_zero_of_dvd dv)
      refine ⟨.inl trivial, v, _, _, rfl, hv0, by omega, fun y hy => ?_⟩
      rw [take_snoc hx] at hy
      rcases List.mem_append.mp hy with hy | hy
      · exact hcop y hy
      · rw [List.mem_singleton.mp hy]
        exact h
  · obtain ⟨v, s4, s5, rfl, hv0, hv1, hcop⟩ := hJ
    rw [List.length_map, Nat.zero_add] at hcop hv1
    rw [List.take_length] at hcop
    simp only [then_nx, s_law_unit_2, sOk, sat_bad, own_c0, own_cs, set_c0, set_cs, getS_c0, getS_cs, e_var, e_bor, e_iou, e_mov, e_frz, frz_some, e_cst, e_glb, e_flat, e_op1, e_op2, e_chn, chn_b, e_and, e_or, e_ife, lst_l, e_tup, e_lst, e_nil, e_cons, e_sub, e_key, e_slc, e_nop, e_rev, e_blt, e_call, it_l, it_t, e_comp, e_val, int_i, e_rng1, e_rng2, zip_l, zip_t, e_zip, e_pop, e_dsp, t_b, t_i, o_neg, o_not, o_add, o_sub, o_mul, o_fdv, o_mod, o_pow, o_lt, o_le, o_gt, o_ge, o_eq, o_ne, o_addL, o_inn, o_nin, o_isn, o_isnn, o_subL, o_subT, o_len, o_lenT, o_tupl, o_list, o_int, o_abs, o_max, o_min, o_gcd, o_sum, o_all, o_any, rb, eqvS, rf_nil, rf_none, rf_some, p_nil, p_none, p_some, a_nm, a_tup, a_nil, a_cons, s_skp, then_nx, then_rt, then_bk, then_ct, s_seq, s_asg, s_fre, s_par, ps_nil, ps_cons, s_exp, s_ret, s_rtn, s_ifs, s_lop, s_brk, s_cnt, s_nvr, s_app, s_set, s_setK, c_lst, ap_lst, si_lst, end_nx, end_rt, oo_nil, oo_0, oo_s, dk_c, dk_m, dk_d, dk_set, dk_can, dk_app, permL, List.filterMap_cons, List.filterMap_nil, List.getElem?_cons_zero, List.getElem?_cons_succ, List.cons_append, List.nil_append, List.append_nil, at0, at1, at2, isi_int, isi_bool, isi_tup, eqvI, Option.some.injEq, exists_eq_left', true_and, and_true, wipeR, Bool.not_true, Bool.not_false, forall_const, List.map_cons, List.map_nil, reduceCtorEq, false_implies, implies_true, true_implies, Bool.true_eq_false, Bool.false_eq_true, eq_self, o_slc, i2_nh]
    have : (per L : Int) * ((L.length : Int) + 1) ≤ 10 ^ 40 * 10 := Int.mul_le_mul (by omega) (by omega) (by omega) (by omega)
    exact ⟨v, d2, rfl, hcop, hv0, by omega, hd2.mono (by omega)⟩
end
end K03

set_option Elab.async false
set_option linter.all false
set_option maxRecDepth 100000
set_option maxHeartbeats 2000000
set_option exponentiation.threshold 10000
namespace K03
open PySem Mini Mini.W
section
variable {G : Defs} {fu : Nat}
theorem step_ok (hD : DrawOk (G i_law_draw)) (hS : SignedOk (G i_law_signed)) (hPr : ProductOk (G i_law_product)) : StepOk (runDf G fu d_law_step) := by
  intro b d L n P n3 hd hb
  have hL : LIM = 1000000 := rfl
  have hT : TOP = 10 ^ 60 := rfl
  have htop : per L < 10 ^ 40 := P.top
  have hfew := P.few
  have h10 : (10 : Int) ^ Int.toNat 10 = 10 ^ 10 := rfl
  rw [s_run rfl]
  show (exS G fu d_law_step.body [some (2, d), some (0, .list (eP L)), some (0, .int n), none, none, none, none]).sat (endB [2, 0, 0] _)
  simp only [d_law_step, s_law_step_0, sOk, sat_bad, own_c0, own_cs, set_c0, set_cs, getS_c0, getS_cs, e_var, e_bor, e_iou, e_mov, e_frz, frz_some, e_cst, e_glb, e_flat, e_op1, e_op2, e_chn, chn_b, e_and, e_or, e_ife, lst_l, e_tup, e_lst, e_nil, e_cons, e_sub, e_key, e_slc, e_nop, e_rev, e_blt, e_call, it_l, it_t, e_comp, e_val, int_i, e_rng1, e_rng2, zip_l, zip_t, e_zip, e_pop, e_dsp, t_b, t_i, o_neg, o_not, o_add, o_sub, o_mul, o_fdv, o_mod, o_pow, o_lt, o_le, o_gt, o_ge, o_eq, o_ne, o_addL, o_inn, o_nin, o_isn, o_isnn, o_subL, o_subT, o_len, o_lenT, o_tupl, o_list, o_int, o_abs, o_max, o_min, o_gcd, o_sum, o_all, o_any, rb, eqvS, rf_nil, rf_none, rf_some, p_nil, p_none, p_some, a_nm, a_tup, a_nil, a_cons, s_skp, then_nx, then_rt, then_bk, then_ct, s_seq, s_asg, s_fre, s_par, ps_nil, ps_cons, s_exp, s_ret, s_rtn, s_ifs, s_lop, s_brk, s_cnt, s_nvr, s_app, s_set, s_setK, c_lst, ap_lst, si_lst, end_nx, end_rt, oo_nil, oo_0, oo_s, dk_c, dk_m, dk_d, dk_set, dk_can, dk_app, permL, List.filterMap_cons, List.filterMap_nil, List.getElem?_cons_zero, List.getElem?_cons_succ, List.cons_append, List.nil_append, List.append_nil, at0, at1, at2, isi_int, isi_bool, isi_tup, eqvI, Option.some.injEq, exists_eq_left', true_and, and_true, wipeR, Bool.not_true, Bool.not_false, forall_const, List.map_cons, List.map_nil, reduceCtorEq, false_implies, implies_true, true_implies, Bool.true_eq_false, Bool.false_eq_true, eq_self, o_slc, i2_nh]
  refine ⟨⟨rfl, by rw [List.length_map]; omega⟩, ?_⟩
  refine comp_inv (I := fun i acc ρ => ∃ (qs : List Nat) (d' : PyData), acc = eN qs ∧ ρ = [some (2, d'), some (0, .list (eP L)), some (0, .int n), none, none, none, none] ∧ (∀ q ∈ qs, 1 ≤ q) ∧ prodN qs ≤ prodN ((L.take i).map Prod.snd) ∧ Deck (b + i) d')
    (eP L) 0 [] (fun i dd acc ρ hdd hI => ?_) ⟨[], d, rfl, rfl, (fun _ h => nomatch h), by simp, hd⟩ (fun l ρ' hI => ?_)
  · rw [Nat.zero_add] at hI ⊢
    obtain ⟨qs, d1, rfl, rfl, hq1, hqp, hd1⟩ := hI
    obtain ⟨x, hx, rfl⟩ := getP hdd
    have hi := lt_of_get hx
    have hqb := q_lt P (List.mem_of_getElem? hx)
    have e1 : prodN ((L.take (i + 1)).map Prod.snd) = prodN ((L.take i).map Prod.snd) * x.2 := by
      rw [take_snoc hx, List.map_append, prodN_app]
      simp [prodN]
    simp only [compB_sat, sOk, sat_bad, own_c0, own_cs, set_c0, set_cs, getS_c0, getS_cs, e_var, e_bor, e_iou, e_mov, e_frz, frz_some, e_cst, e_glb, e_flat, e_op1, e_op2, e_chn, chn_b, e_and, e_or, e_ife, lst_l, e_tup, e_lst, e_nil, e_cons, e_sub, e_key, e_slc, e_nop, e_rev, e_blt, e_call, it_l, it_t, e_comp, e_val, int_i, e_rng1, e_rng2, zip_l, zip_t, e_zip, e_pop, e_dsp, t_b, t_i, o_neg, o_not, o_add, o_sub, o_mul, o_fdv, o_mod, o_pow, o_lt, o_le, o_gt, o_ge, o_eq, o_ne, o_addL, o_inn, o_nin, o_isn, o_isnn, o_subL, o_subT, o_len, o_lenT, o_tupl, o_list, o_int, o_abs, o_max, o_min, o_gcd, o_sum, o_all, o_any, rb, eqvS, rf_nil, rf_none, rf_some, p_nil, p_none, p_some, a_nm, a_tup, a_nil, a_cons, s_skp, then_nx, then_rt, then_bk, then_ct, s_seq, s_asg, s_fre, s_par, ps_nil, ps_cons, s_exp, s_ret, s_rtn, s_ifs, s_lop, s_brk, s_cnt, s_nvr, s_app, s_set, s_setK, c_lst, ap_lst, si_lst, end_nx, end_rt, oo_nil, oo_0, oo_s, dk_c, dk_m, dk_d, dk_set, dk_can, dk_app, permL, List.filterMap_cons, List.filterMap_nil, List.getElem?_cons_zero, List.getElem?_cons_succ, List.cons_append, List.nil_append, List.append_nil, at0, at1, at2, isi_int, isi_bool, isi_tup, eqvI, Option.some.injEq, exists_eq_left', true_and, and_true, wipeR, Bool.not_true, Bool.not_false, forall_const, List.map_cons, List.map_nil, reduceCtorEq, false_implies, implies_true, true_implies, Bool.true_eq_false, Bool.false_eq_true, eq_self, o_slc, i2_nh]
    refine sat_imp (hD _ d1 3 hd1 (by omega) (by omega) (by omega)) ?_
    rintro _ ⟨z, d2, rfl, z0, z1, hd2⟩
    simp only [sOk, sat_bad, own_c0, own_cs, set_c0, set_cs, getS_c0, getS_cs, e_var, e_bor, e_iou, e_mov, e_frz, frz_some, e_cst, e_glb, e_flat, e_op1, e_op2, e_chn, chn_b, e_and, e_or, e_ife, lst_l, e_tup, e_lst, e_nil, e_cons, e_sub, e_key, e_slc, e_nop, e_rev, e_blt, e_call, it_l, it_t, e_comp, e_val, int_i, e_rng1, e_rng2, zip_l, zip_t, e_zip, e_pop, e_dsp, t_b, t_i, o_neg, o_not, o_add, o_sub, o_mul, o_fdv, o_mod, o_pow, o_lt, o_le, o_gt, o_ge, o_eq, o_ne, o_addL, o_inn, o_nin, o_isn, o_isnn, o_subL, o_subT, o_len, o_lenT, o_tupl, o_list, o_int, o_abs, o_max, o_min, o_gcd, o_sum, o_all, o_any, rb, eqvS, rf_nil, rf_none, rf_some, p_nil, p_none, p_some, a_nm, a_tup, a_nil, a_cons, s_skp, then_nx, then_rt, then_bk, then_ct, s_seq, s_asg, s_fre, s_par, ps_nil, ps_cons, s_exp, s_ret, s_rtn, s_ifs, s_lop, s_brk, s_cnt, s_nvr, s_app, s_set, s_setK, c_lst, ap_lst, si_lst, end_nx, end_rt, oo_nil, oo_0, oo_s, dk_c, dk_m, dk_d, dk_set, dk_can, dk_app, permL, List.filterMap_cons, List.filterMap_nil, List.getElem?_cons_zero, List.getElem?_cons_succ, List.cons_append, List.nil_append, List.append_nil, at0, at1, at2, isi_int, isi_bool, isi_tup, eqvI, Option.some.injEq, exists_eq_left', true_and, and_true, wipeR, Bool.not_true, Bool.not_false, forall_const, List.map_cons, List.map_nil, reduceCtorEq, false_implies, implies_true, true_implies, Bool.true_eq_false, Bool.false_eq_true, eq_self, o_slc, i2_nh]
    refine ⟨⟨rfl, rfl⟩, fun _ => ?_, fun _ => ?_⟩
    · refine ⟨qs ++ [x.2], d2, by simp only [eN, List.map_append, List.map_cons, List.map_nil, Option.toList], rfl, fun q hq => ?_, ?_, hd2⟩
      · rcases List.mem_append.mp hq with hq | hq
        · exact hq1 q hq
        · rw [List.mem_singleton.mp hq]; omega
      · rw [e1, prodN_app]
        simp only [prodN, Nat.mul_one]
        exact Nat.mul_le_mul_right _ hqp
    · refine ⟨qs, d2, by simp only [Option.toList, List.append_nil], rfl, hq1, ?_, hd2⟩
      rw [e1]
      exact Nat.le_trans hqp (Nat.le_mul_of_pos_right _ hqb.2)
  · obtain ⟨qs, d1, e, rfl, hq1, hqp, hd1⟩ := hI
    rw [List.nil_append] at e
    subst e
    rw [List.length_map, Nat.zero_add] at hqp hd1
    rw [List.take_length] at hqp
    have hlt : prodN qs < 10 ^ 40 := by unfold per at htop; omega
    simp only [sOk, sat_bad, own_c0, own_cs, set_c0, set_cs, getS_c0, getS_cs, e_var, e_bor, e_iou, e_mov, e_frz, frz_some, e_cst, e_glb, e_flat, e_op1, e_op2, e_chn, chn_b, e_and, e_or, e_ife, lst_l, e_tup, e_lst, e_nil, e_cons, e_sub, e_key, e_slc, e_nop, e_rev, e_blt, e_call, it_l, it_t, e_comp, e_val, int_i, e_rng1, e_rng2, zip_l, zip_t, e_zip, e_pop, e_dsp, t_b, t_i, o_neg, o_not, o_add, o_sub, o_mul, o_fdv, o_mod, o_pow, o_lt, o_le, o_gt, o_ge, o_eq, o_ne, o_addL, o_inn, o_nin, o_isn, o_isnn, o_subL, o_subT, o_len, o_lenT, o_tupl, o_list, o_int, o_abs, o_max, o_min, o_gcd, o_sum, o_all, o_any, rb, eqvS, rf_nil, rf_none, rf_some, p_nil, p_none, p_some, a_nm, a_tup, a_nil, a_cons, s_skp, then_nx, then_rt, then_bk, then_ct, s_seq, s_asg, s_fre, s_par, ps_nil, ps_cons, s_exp, s_ret, s_rtn, s_ifs, s_lop, s_brk, s_cnt, s_nvr, s_app, s_set, s_setK, c_lst, ap_lst, si_lst, end_nx, end_rt, oo_nil, oo_0, oo_s, dk_c, dk_m, dk_d, dk_set, dk_can, dk_app, permL, List.filterMap_cons, List.filterMap_nil, List.getElem?_cons_zero, List.getElem?_cons_succ, List.cons_append, List.nil_append, List.append_nil, at0, at1, at2, isi_int, isi_bool, isi_tup, eqvI, Option.some.injEq, exists_eq_left', true_and, and_true, wipeR, Bool.not_true, Bool.not_false, forall_const, List.map_cons, List.map_nil, reduceCtorEq, false_implies, implies_true, true_implies, Bool.true_eq_false, Bool.false_eq_true, eq_self, o_slc, i2_nh]
    refine sat_imp (prodOkN hPr hq1 hlt) ?_
    rintro _ rfl
    simp only [sOk, sat_bad, own_c0, own_cs, set_c0, set_cs, getS_c0, getS_cs, e_var, e_bor, e_iou, e_mov, e_frz, frz_some, e_cst, e_glb, e_flat, e_op1, e_op2, e_chn, chn_b, e_and, e_or, e_ife, lst_l, e_tup, e_lst, e_nil, e_cons, e_sub, e_key, e_slc, e_nop, e_rev, e_blt, e_call, it_l, it_t, e_comp, e_val, int_i, e_rng1, e_rng2, zip_l, zip_t, e_zip, e_pop, e_dsp, t_b, t_i, o_neg, o_not, o_add, o_sub, o_mul, o_fdv, o_mod, o_pow, o_lt, o_le, o_gt, o_ge, o_eq, o_ne, o_addL, o_inn, o_nin, o_isn, o_isnn, o_subL, o_subT, o_len, o_lenT, o_tupl, o_list, o_int, o_abs, o_max, o_min, o_gcd, o_sum, o_all, o_any, rb, eqvS, rf_nil, rf_none, rf_some, p_nil, p_none, p_some, a_nm, a_tup, a_nil, a_cons, s_skp, then_nx, then_rt, then_bk, then_ct, s_seq, s_asg, s_fre, s_par, ps_nil, ps_cons, s_exp, s_ret, s_rtn, s_ifs, s_lop, s_brk, s_cnt, s_nvr, s_app, s_set, s_setK, c_lst, ap_lst, si_lst, end_nx, end_rt, oo_nil, oo_0, oo_s, dk_c, dk_m, dk_d, dk_set, dk_can, dk_app, permL, List.filterMap_cons, List.filterMap_nil, List.getElem?_cons_zero, List.getElem?_cons_succ, List.cons_append, List.nil_append, List.append_nil, at0, at1, at2, isi_int, isi_bool, isi_tup, eqvI, Option.some.injEq, exists_eq_left', true_and, and_true, wipeR, Bool.not_true, Bool.not_false, forall_const, List.map_cons, List.map_nil, reduceCtorEq, false_implies, implies_true, true_implies, Bool.true_eq_false, Bool.false_eq_true, eq_self, o_slc, i2_nh]
    generalize hM : prodN qs = M at *
    simp only [s_law_step_1, sOk, sat_bad, own_c0, own_cs, set_c0, set_cs, getS_c0, getS_cs, e_var, e_bor, e_iou, e_mov, e_frz, frz_some, e_cst, e_glb, e_flat, e_op1, e_op2, e_chn, chn_b, e_and, e_or, e_ife, lst_l, e_tup, e_lst, e_nil, e_cons, e_sub, e_key, e_slc, e_nop, e_rev, e_blt, e_call, it_l, it_t, e_comp, e_val, int_i, e_rng1, e_rng2, zip_l, zip_t, e_zip, e_pop, e_dsp, t_b, t_i, o_neg, o_not, o_add, o_sub, o_mul, o_fdv, o_mod, o_pow, o_lt, o_le, o_gt, o_ge, o_eq, o_ne, o_addL, o_inn, o_nin, o_isn, o_isnn, o_subL, o_subT, o_len, o_lenT, o_tupl, o_list, o_int, o_abs, o_max, o_min, o_gcd, o_sum, o_all, o_any, rb, eqvS, rf_nil, rf_none, rf_some, p_nil, p_none, p_some, a_nm, a_tup, a_nil, a_cons, s_skp, then_nx, then_rt, then_bk, then_ct, s_seq, s_asg, s_fre, s_par, ps_nil, ps_cons, s_exp, s_ret, s_rtn, s_ifs, s_lop, s_brk, s_cnt, s_nvr, s_app, s_set, s_setK, c_lst, ap_lst, si_lst, end_nx, end_rt, oo_nil, oo_0, oo_s, dk_c, dk_m, dk_d, dk_set, dk_can, dk_app, permL, List.filterMap_cons, List.filterMap_nil, List.getElem?_cons_zero, List.getElem?_cons_succ, List.cons_append, List.nil_append, List.append_nil, at0, at1, at2, isi_int, isi_bool, isi_tup, eqvI, Option.some.injEq, exists_eq_left', true_and, and_true, wipeR, Bool.not_true, Bool.not_false, forall_const, List.map_cons, List.map_nil, reduceCtorEq, false_implies, implies_true, true_implies, Bool.true_eq_false, Bool.false_eq_true, eq_self, o_slc, i2_nh]
    refine ⟨by unfold rngOk; exact decide_eq_true (by omega), ⟨rfl, by rw [range_len]; omega⟩, ?_⟩
    refine comp_inv (I := fun i acc ρ => ∃ (t : List Int) (d' : PyData), acc = eI t ∧ ρ = [some (2, d'), some (0, .list (eP L)), some (0, .int n), some (0, .int M), none, none, none] ∧ t.length = i ∧ BdT t ∧ Deck (b + 20 + 30 * i) d')
      (rangeD 0 n) 0 [] (fun i dd acc ρ hdd hI => ?_) ⟨[], d1, rfl, rfl, rfl, (fun _ h => nomatch h), hd1.mono (by omega)⟩ (fun l ρ' hI => ?_)
    · obtain ⟨rfl, hi⟩ := range_get hdd
      rw [Nat.zero_add] at hI ⊢
      obtain ⟨t, d2, rfl, rfl, hlen, hbd, hd2⟩ := hI
      simp only [compB_sat, sOk, sat_bad, own_c0, own_cs, set_c0, set_cs, getS_c0, getS_cs, e_var, e_bor, e_iou, e_mov, e_frz, frz_some, e_cst, e_glb, e_flat, e_op1, e_op2, e_chn, chn_b, e_and, e_or, e_ife, lst_l, e_tup, e_lst, e_nil, e_cons, e_sub, e_key, e_slc, e_nop, e_rev, e_blt, e_call, it_l, it_t, e_comp, e_val, int_i, e_rng1, e_rng2, zip_l, zip_t, e_zip, e_pop, e_dsp, t_b, t_i, o_neg, o_not, o_add, o_sub, o_mul, o_fdv, o_mod, o_pow, o_lt, o_le, o_gt, o_ge, o_eq, o_ne, o_addL, o_inn, o_nin, o_isn, o_isnn, o_subL, o_subT, o_len, o_lenT, o_tupl, o_list, o_int, o_abs, o_max, o_min, o_gcd, o_sum, o_all, o_any, rb, eqvS, rf_nil, rf_none, rf_some, p_nil, p_none, p_some, a_nm, a_tup, a_nil, a_cons, s_skp, then_nx, then_rt, then_bk, then_ct, s_seq, s_asg, s_fre, s_par, ps_nil, ps_cons, s_exp, s_ret, s_rtn, s_ifs, s_lop, s_brk, s_cnt, s_nvr, s_app, s_set, s_setK, c_lst, ap_lst, si_lst, end_nx, end_rt, oo_nil, oo_0, oo_s, dk_c, dk_m, dk_d, dk_set, dk_can, dk_app, permL, List.filterMap_cons, List.filterMap_nil, List.getElem?_cons_zero, List.getElem?_cons_succ, List.cons_append, List.nil_append, List.append_nil, at0, at1, at2, isi_int, isi_bool, isi_tup, eqvI, Option.some.injEq, exists_eq_left', true_and, and_true, wipeR, Bool.not_true, Bool.not_false, forall_const, List.map_cons, List.map_nil, reduceCtorEq, false_implies, implies_true, true_implies, Bool.true_eq_false, Bool.false_eq_true, eq_self, o_slc, i2_nh, h10]
      refine ⟨by decide, ?_⟩
      refine sat_imp (hS _ d2 (10 ^ 10) hd2 (by omega) (by decide) (by decide)) ?_
      rintro _ ⟨z, d3, rfl, z0, z1, hd3⟩
      simp only [sOk, sat_bad, own_c0, own_cs, set_c0, set_cs, getS_c0, getS_cs, e_var, e_bor, e_iou, e_mov, e_frz, frz_some, e_cst, e_glb, e_flat, e_op1, e_op2, e_chn, chn_b, e_and, e_or, e_ife, lst_l, e_tup, e_lst, e_nil, e_cons, e_sub, e_key, e_slc, e_nop, e_rev, e_blt, e_call, it_l, it_t, e_comp, e_val, int_i, e_rng1, e_rng2, zip_l, zip_t, e_zip, e_pop, e_dsp, t_b, t_i, o_neg, o_not, o_add, o_sub, o_mul, o_fdv, o_mod, o_pow, o_lt, o_le, o_gt, o_ge, o_eq, o_ne, o_addL, o_inn, o_nin, o_isn, o_isnn, o_subL, o_subT, o_len, o_lenT, o_tupl, o_list, o_int, o_abs, o_max, o_min, o_gcd, o_sum, o_all, o_any, rb, eqvS, rf_nil, rf_none, rf_some, p_nil, p_none, p_some, a_nm, a_tup, a_nil, a_cons, s_skp, then_nx, then_rt, then_bk, then_ct, s_seq, s_asg, s_fre, s_par, ps_nil, ps_cons, s_exp, s_ret, s_rtn, s_ifs, s_lop, s_brk, s_cnt, s_nvr, s_app, s_set, s_setK, c_lst, ap_lst, si_lst, end_nx, end_rt, oo_nil, oo_0, oo_s, dk_c, dk_m, dk_d, dk_set, dk_can, dk_app, permL, List.filterMap_cons, List.filterMap_nil, List.getElem?_cons_zero, List.getElem?_cons_succ, List.cons_append, List.nil_append, List.append_nil, at0, at1, at2, isi_int, isi_bool, isi_tup, eqvI, Option.some.injEq, exists_eq_left', true_and, and_true, wipeR, Bool.not_true, Bool.not_false, forall_const, List.map_cons, List.map_nil, reduceCtorEq, false_implies, implies_true, true_implies, Bool.true_eq_false, Bool.false_eq_true, eq_self, o_slc, i2_nh]
      have hmb := mul_bd (a := z) (b := (M : Int)) (A := 10 ^ 61) (B := 10 ^ 40) (by omega) (by omega)
      refine ⟨mulOk_of (by omega) (by omega), t ++ [z * (M : Int)], d3, by simp only [eI, List.map_append, List.map_cons, List.map_nil, Option.toList], rfl, by rw [List.length_append, hlen]; rfl, fun a ha => ?_, hd3.mono (by omega)⟩
      rcases List.mem_append.mp ha with ha | ha
      · exact hbd a ha
      · rw [List.mem_singleton.mp ha]
        have e : (10 : Int) ^ 61 * 10 ^ 40 = 10 ^ 101 := by decide
        omega
    · obtain ⟨t, d2, e, rfl, hlen, hbd, hd2⟩ := hI
      rw [List.nil_append] at e
      subst e
      rw [range_len] at hlen hd2
      simp only [sOk, sat_bad, own_c0, own_cs, set_c0, set_cs, getS_c0, getS_cs, e_var, e_bor, e_iou, e_mov, e_frz, frz_some, e_cst, e_glb, e_flat, e_op1, e_op2, e_chn, chn_b, e_and, e_or, e_ife, lst_l, e_tup, e_lst, e_nil, e_cons, e_sub, e_key, e_slc, e_nop, e_rev, e_blt, e_call, it_l, it_t, e_comp, e_val, int_i, e_rng1, e_rng2, zip_l, zip_t, e_zip, e_pop, e_dsp, t_b, t_i, o_neg, o_not, o_add, o_sub, o_mul, o_fdv, o_mod, o_pow, o_lt, o_le, o_gt, o_ge, o_eq, o_ne, o_addL, o_inn, o_nin, o_isn, o_isnn, o_subL, o_subT, o_len, o_lenT, o_tupl, o_list, o_int, o_abs, o_max, o_min, o_gcd, o_sum, o_all, o_any, rb, eqvS, rf_nil, rf_none, rf_some, p_nil, p_none, p_some, a_nm, a_tup, a_nil, a_cons, s_skp, then_nx, then_rt, then_bk, then_ct, s_seq, s_asg, s_fre, s_par, ps_nil, ps_cons, s_exp, s_ret, s_rtn, s_ifs, s_lop, s_brk, s_cnt, s_nvr, s_app, s_set, s_setK, c_lst, ap_lst, si_lst, end_nx, end_rt, oo_nil, oo_0, oo_s, dk_c, dk_m, dk_d, dk_set, dk_can, dk_app, permL, List.filterMap_cons, List.filterMap_nil, List.getElem?_cons_zero, List.getElem?_cons_succ, List.cons_append, List.nil_append, List.append_nil, at0, at1, at2, isi_int, isi_bool, isi_tup, eqvI, Option.some.injEq, exists_eq_left', true_and, and_true, wipeR, Bool.not_true, Bool.not_false, forall_const, List.map_cons, List.map_nil, reduceCtorEq, false_implies, implies_true, true_implies, Bool.true_eq_false, Bool.false_eq_true, eq_self, o_slc, i2_nh]
      exact ⟨t, d2, rfl, by omega, hbd, hd2.mono (by omega)⟩
theorem comes_ok (hD : DrawOk (G i_law_draw)) (hG : GreatOk (G i_law_great)) (hA : ProdAtOk (G i_law_along)) (hC : CommonOk (G i_law_common)) (hM : MovedOk (G i_law_moved)) (hU : DueOk (G i_law_is_due)) : ComesOk (runDf G fu d_law_comes_again) := by
  intro b d L c r x t P v r0 r1 hlx hlt hx ht hon hd hb
  have hL : LIM = 1000000 := rfl
  have hT : TOP = 10 ^ 60 := rfl
  have hX : XB = 10 ^ 300 := rfl
  have htop : per L < 10 ^ 40 := P.top
  have hpos := P.pos
  have hlen := v.len
  have ht' : Bd t := fun a ha => by have := ht a ha; omega
  rw [s_run rfl]
  show (exS G fu d_law_comes_again.body [some (2, d), some (0, stripe (per L) c r), some (0, .tuple (eI x)), some (0, .tuple (eI t)), none, none, none, none, none, none]).sat (endB [2, 0, 0, 0] _)
  simp only [d_law_comes_again, s_law_comes_again_0, sOk, sat_bad, own_c0, own_cs, set_c0, set_cs, getS_c0, getS_cs, e_var, e_bor, e_iou, e_mov, e_frz, frz_some, e_cst, e_glb, e_flat, e_op1, e_op2, e_chn, chn_b, e_and, e_or, e_ife, lst_l, e_tup, e_lst, e_nil, e_cons, e_sub, e_key, e_slc, e_nop, e_rev, e_blt, e_call, it_l, it_t, e_comp, e_val, int_i, e_rng1, e_rng2, zip_l, zip_t, e_zip, e_pop, e_dsp, t_b, t_i, o_neg, o_not, o_add, o_sub, o_mul, o_fdv, o_mod, o_pow, o_lt, o_le, o_gt, o_ge, o_eq, o_ne, o_addL, o_inn, o_nin, o_isn, o_isnn, o_subL, o_subT, o_len, o_lenT, o_tupl, o_list, o_int, o_abs, o_max, o_min, o_gcd, o_sum, o_all, o_any, rb, eqvS, rf_nil, rf_none, rf_some, p_nil, p_none, p_some, a_nm, a_tup, a_nil, a_cons, s_skp, then_nx, then_rt, then_bk, then_ct, s_seq, s_asg, s_fre, s_par, ps_nil, ps_cons, s_exp, s_ret, s_rtn, s_ifs, s_lop, s_brk, s_cnt, s_nvr, s_app, s_set, s_setK, c_lst, ap_lst, si_lst, end_nx, end_rt, oo_nil, oo_0, oo_s, dk_c, dk_m, dk_d, dk_set, dk_can, dk_app, permL, List.filterMap_cons, List.filterMap_nil, List.getElem?_cons_zero, List.getElem?_cons_succ, List.cons_append, List.nil_append, List.append_nil, at0, at1, at2, isi_int, isi_bool, isi_tup, eqvI, Option.some.injEq, exists_eq_left', true_and, and_true, wipeR, Bool.not_true, Bool.not_false, forall_const, List.map_cons, List.map_nil, reduceCtorEq, false_implies, implies_true, true_implies, Bool.true_eq_false, Bool.false_eq_true, eq_self, o_slc, i2_nh, stripe]
  simp only [s_law_comes_again_1, sOk, sat_bad, own_c0, own_cs, set_c0, set_cs, getS_c0, getS_cs, e_var, e_bor, e_iou, e_mov, e_frz, frz_some, e_cst, e_glb, e_flat, e_op1, e_op2, e_chn, chn_b, e_and, e_or, e_ife, lst_l, e_tup, e_lst, e_nil, e_cons, e_sub, e_key, e_slc, e_nop, e_rev, e_blt, e_call, it_l, it_t, e_comp, e_val, int_i, e_rng1, e_rng2, zip_l, zip_t, e_zip, e_pop, e_dsp, t_b, t_i, o_neg, o_not, o_add, o_sub, o_mul, o_fdv, o_mod, o_pow, o_lt, o_le, o_gt, o_ge, o_eq, o_ne, o_addL, o_inn, o_nin, o_isn, o_isnn, o_subL, o_subT, o_len, o_lenT, o_tupl, o_list, o_int, o_abs, o_max, o_min, o_gcd, o_sum, o_all, o_any, rb, eqvS, rf_nil, rf_none, rf_some, p_nil, p_none, p_some, a_nm, a_tup, a_nil, a_cons, s_skp, then_nx, then_rt, then_bk, then_ct, s_seq, s_asg, s_fre, s_par, ps_nil, ps_cons, s_exp, s_ret, s_rtn, s_ifs, s_lop, s_brk, s_cnt, s_nvr, s_app, s_set, s_setK, c_lst, ap_lst, si_lst, end_nx, end_rt, oo_nil, oo_0, oo_s, dk_c, dk_m, dk_d, dk_set, dk_can, dk_app, permL, List.filterMap_cons, List.filterMap_nil, List.getElem?_cons_zero, List.getElem?_cons_succ, List.cons_append, List.nil_append, List.append_nil, at0, at1, at2, isi_int, isi_bool, isi_tup, eqvI, Option.some.injEq, exists_eq_left', true_and, and_true, wipeR, Bool.not_true, Bool.not_false, forall_const, List.map_cons, List.map_nil, reduceCtorEq, false_implies, implies_true, true_implies, Bool.true_eq_false, Bool.false_eq_true, eq_self, o_slc, i2_nh]
  refine sat_imp (hA c t (by omega) (v.bd P) ht') ?_
  rintro _ rfl
  simp only [sOk, sat_bad, own_c0, own_cs, set_c0, set_cs, getS_c0, getS_cs, e_var, e_bor, e_iou, e_mov, e_frz, frz_some, e_cst, e_glb, e_flat, e_op1, e_op2, e_chn, chn_b, e_and, e_or, e_ife, lst_l, e_tup, e_lst, e_nil, e_cons, e_sub, e_key, e_slc, e_nop, e_rev, e_blt, e_call, it_l, it_t, e_comp, e_val, int_i, e_rng1, e_rng2, zip_l, zip_t, e_zip, e_pop, e_dsp, t_b, t_i, o_neg, o_not, o_add, o_sub, o_mul, o_fdv, o_mod, o_pow, o_lt, o_le, o_gt, o_ge, o_eq, o_ne, o_addL, o_inn, o_nin, o_isn, o_isnn, o_subL, o_subT, o_len, o_lenT, o_tupl, o_list, o_int, o_abs, o_max, o_min, o_gcd, o_sum, o_all, o_any, rb, eqvS, rf_nil, rf_none, rf_some, p_nil, p_none, p_some, a_nm, a_tup, a_nil, a_cons, s_skp, then_nx, then_rt, then_bk, then_ct, s_seq, s_asg, s_fre, s_par, ps_nil, ps_cons, s_exp, s_ret, s_rtn, s_ifs, s_lop, s_brk, s_cnt, s_nvr, s_app, s_set, s_setK, c_lst, ap_lst, si_lst, end_nx, end_rt, oo_nil, oo_0, oo_s, dk_c, dk_m, dk_d, dk_set, dk_can, dk_app, permL, List.filterMap_cons, List.filterMap_nil, List.getElem?_cons_zero, List.getElem?_cons_succ, List.cons_append, List.nil_append, List.append_nil, at0, at1, at2, isi_int, isi_bool, isi_tup, eqvI, Option.some.injEq, exists_eq_left', true_and, and_true, wipeR, Bool.not_true, Bool.not_false, forall_const, List.map_cons, List.map_nil, reduceCtorEq, false_implies, implies_true, true_implies, Bool.true_eq_false, Bool.false_eq_true, eq_self, o_slc, i2_nh]
  refine sat_imp (hC (per L) (dot c t) hpos (dot_bd hlen.2 (fun a ha => by have := v.bd P a ha; omega) (fun a ha => by have := ht' a ha; omega))) ?_
  rintro _ rfl
  have hgp : 0 < Nat.gcd (per L) (dot c t).natAbs := Nat.gcd_pos_of_pos_left _ hpos
  have hgl : Nat.gcd (per L) (dot c t).natAbs ≤ per L := Nat.gcd_le_left _ hpos
  have hcome := fun k => comes hpos k (dot c t)
  have hNd : per L / Nat.gcd (per L) (dot c t).natAbs ≤ per L := Nat.div_le_self _ _
  have hNp : 0 < per L / Nat.gcd (per L) (dot c t).natAbs := Nat.div_pos hgl hgp
  simp only [sOk, sat_bad, own_c0, own_cs, set_c0, set_cs, getS_c0, getS_cs, e_var, e_bor, e_iou, e_mov, e_frz, frz_some, e_cst, e_glb, e_flat, e_op1, e_op2, e_chn, chn_b, e_and, e_or, e_ife, lst_l, e_tup, e_lst, e_nil, e_cons, e_sub, e_key, e_slc, e_nop, e_rev, e_blt, e_call, it_l, it_t, e_comp, e_val, int_i, e_rng1, e_rng2, zip_l, zip_t, e_zip, e_pop, e_dsp, t_b, t_i, o_neg, o_not, o_add, o_sub, o_mul, o_fdv, o_mod, o_pow, o_lt, o_le, o_gt, o_ge, o_eq, o_ne, o_addL, o_inn, o_nin, o_isn, o_isnn, o_subL, o_subT, o_len, o_lenT, o_tupl, o_list, o_int, o_abs, o_max, o_min, o_gcd, o_sum, o_all, o_any, rb, eqvS, rf_nil, rf_none, rf_some, p_nil, p_none, p_some, a_nm, a_tup, a_nil, a_cons, s_skp, then_nx, then_rt, then_bk, then_ct, s_seq, s_asg, s_fre, s_par, ps_nil, ps_cons, s_exp, s_ret, s_rtn, s_ifs, s_lop, s_brk, s_cnt, s_nvr, s_app, s_set, s_setK, c_lst, ap_lst, si_lst, end_nx, end_rt, oo_nil, oo_0, oo_s, dk_c, dk_m, dk_d, dk_set, dk_can, dk_app, permL, List.filterMap_cons, List.filterMap_nil, List.getElem?_cons_zero, List.getElem?_cons_succ, List.cons_append, List.nil_append, List.append_nil, at0, at1, at2, isi_int, isi_bool, isi_tup, eqvI, Option.some.injEq, exists_eq_left', true_and, and_true, wipeR, Bool.not_true, Bool.not_false, forall_const, List.map_cons, List.map_nil, reduceCtorEq, false_implies, implies_true, true_implies, Bool.true_eq_false, Bool.false_eq_true, eq_self, o_slc, i2_nh]
  refine ⟨⟨by omega, lg (by omega) (by omega)⟩, ?_⟩
  rw [← Int.natCast_ediv]
  generalize hN : per L / Nat.gcd (per L) (dot c t).natAbs = N at *
  have on : ∀ k : Int, (dot c (mv x t k) - r) % (per L : Int) = 0 ↔ k % (N : Int) = 0 := fun k => by
    rw [← hcome k, dot_mv k hlx hlt]
    refine mod_iff ?_
    have e : dot c x + k * dot c t - r - k * dot c t = dot c x - r := by omega
    rw [e]
    exact Int.dvd_of_emod_eq_zero hon
  have item : ∀ (k : Int) (bb : Bool), -(10 ^ 100) ≤ k ∧ k ≤ 10 ^ 100 → (bb = true ↔ k % (N : Int) = 0) → TrueOk (G i_law_is_due) [stripe (per L) c r, .tuple (eI (mv x t k)), .bool bb] := fun k bb hk hbb =>
    hU L c r (mv x t k) bb P v r0 r1 ((mv_len (by omega)).trans hlx) (mv_bd hx ht hk) (hbb.trans (on k).symm)
  simp only [s_law_comes_again_2, sOk, sat_bad, own_c0, own_cs, set_c0, set_cs, getS_c0, getS_cs, e_var, e_bor, e_iou, e_mov, e_frz, frz_some, e_cst, e_glb, e_flat, e_op1, e_op2, e_chn, chn_b, e_and, e_or, e_ife, lst_l, e_tup, e_lst, e_nil, e_cons, e_sub, e_key, e_slc, e_nop, e_rev, e_blt, e_call, it_l, it_t, e_comp, e_val, int_i, e_rng1, e_rng2, zip_l, zip_t, e_zip, e_pop, e_dsp, t_b, t_i, o_neg, o_not, o_add, o_sub, o_mul, o_fdv, o_mod, o_pow, o_lt, o_le, o_gt, o_ge, o_eq, o_ne, o_addL, o_inn, o_nin, o_isn, o_isnn, o_subL, o_subT, o_len, o_lenT, o_tupl, o_list, o_int, o_abs, o_max, o_min, o_gcd, o_sum, o_all, o_any, rb, eqvS, rf_nil, rf_none, rf_some, p_nil, p_none, p_some, a_nm, a_tup, a_nil, a_cons, s_skp, then_nx, then_rt, then_bk, then_ct, s_seq, s_asg, s_fre, s_par, ps_nil, ps_cons, s_exp, s_ret, s_rtn, s_ifs, s_lop, s_brk, s_cnt, s_nvr, s_app, s_set, s_setK, c_lst, ap_lst, si_lst, end_nx, end_rt, oo_nil, oo_0, oo_s, dk_c, dk_m, dk_d, dk_set, dk_can, dk_app, permL, List.filterMap_cons, List.filterMap_nil, List.getElem?_cons_zero, List.getElem?_cons_succ, List.cons_append, List.nil_append, List.append_nil, at0, at1, at2, isi_int, isi_bool, isi_tup, eqvI, Option.some.injEq, exists_eq_left', true_and, and_true, wipeR, Bool.not_true, Bool.not_false, forall_const, List.map_cons, List.map_nil, reduceCtorEq, false_implies, implies_true, true_implies, Bool.true_eq_false, Bool.false_eq_true, eq_self, o_slc, i2_nh]
  refine sat_imp (hD _ d 90000 hd (by omega) (by omega) (by omega)) ?_
  rintro _ ⟨z1, d1, rfl, z10, z11, hd1⟩
  simp only [sOk, sat_bad, own_c0, own_cs, set_c0, set_cs, getS_c0, getS_cs, e_var, e_bor, e_iou, e_mov, e_frz, frz_some, e_cst, e_glb, e_flat, e_op1, e_op2, e_chn, chn_b, e_and, e_or, e_ife, lst_l, e_tup, e_lst, e_nil, e_cons, e_sub, e_key, e_slc, e_nop, e_rev, e_blt, e_call, it_l, it_t, e_comp, e_val, int_i, e_rng1, e_rng2, zip_l, zip_t, e_zip, e_pop, e_dsp, t_b, t_i, o_neg, o_not, o_add, o_sub, o_mul, o_fdv, o_mod, o_pow, o_lt, o_le, o_gt, o_ge, o_eq, o_ne, o_addL, o_inn, o_nin, o_isn, o_isnn, o_subL, o_subT, o_len, o_lenT, o_tupl, o_list, o_int, o_abs, o_max, o_min, o_gcd, o_sum, o_all, o_any, rb, eqvS, rf_nil, rf_none, rf_some, p_nil, p_none, p_some, a_nm, a_tup, a_nil, a_cons, s_skp, then_nx, then_rt, then_bk, then_ct, s_seq, s_asg, s_fre, s_par, ps_nil, ps_cons, s_exp, s_ret, s_rtn, s_ifs, s_lop, s_brk, s_cnt, s_nvr, s_app, s_set, s_setK, c_lst, ap_lst, si_lst, end_nx, end_rt, oo_nil, oo_0, oo_s, dk_c, dk_m, dk_d, dk_set, dk_can, dk_app, permL, List.filterMap_cons, List.filterMap_nil, List.getElem?_cons_zero, List.getElem?_cons_succ, List.cons_append, List.nil_append, List.append_nil, at0, at1, at2, isi_int, isi_bool, isi_tup, eqvI, Option.some.injEq, exists_eq_left', true_and, and_true, wipeR, Bool.not_true, Bool.not_false, forall_const, List.map_cons, List.map_nil, reduceCtorEq, false_implies, implies_true, true_implies, Bool.true_eq_false, Bool.false_eq_true, eq_self, o_slc, i2_nh]
  have hmb := mul_bd (a := (N : Int)) (b := z1) (A := 10 ^ 40) (B := 90000) (by omega) (by omega)
  refine ⟨mulOk_of (by omega) (by omega), ?_⟩
  refine sat_imp (hG _ d1 N hd1 (by omega) (by omega) (by omega)) ?_
  rintro _ ⟨z2, d2, rfl, z20, z21, hd2⟩
  simp only [sOk, sat_bad, own_c0, own_cs, set_c0, set_cs, getS_c0, getS_cs, e_var, e_bor, e_iou, e_mov, e_frz, frz_some, e_cst, e_glb, e_flat, e_op1, e_op2, e_chn, chn_b, e_and, e_or, e_ife, lst_l, e_tup, e_lst, e_nil, e_cons, e_sub, e_key, e_slc, e_nop, e_rev, e_blt, e_call, it_l, it_t, e_comp, e_val, int_i, e_rng1, e_rng2, zip_l, zip_t, e_zip, e_pop, e_dsp, t_b, t_i, o_neg, o_not, o_add, o_sub, o_mul, o_fdv, o_mod, o_pow, o_lt, o_le, o_gt, o_ge, o_eq, o_ne, o_addL, o_inn, o_nin, o_isn, o_isnn, o_subL, o_subT, o_len, o_lenT, o_tupl, o_list, o_int, o_abs, o_max, o_min, o_gcd, o_sum, o_all, o_any, rb, eqvS, rf_nil, rf_none, rf_some, p_nil, p_none, p_some, a_nm, a_tup, a_nil, a_cons, s_skp, then_nx, then_rt, then_bk, then_ct, s_seq, s_asg, s_fre, s_par, ps_nil, ps_cons, s_exp, s_ret, s_rtn, s_ifs, s_lop, s_brk, s_cnt, s_nvr, s_app, s_set, s_setK, c_lst, ap_lst, si_lst, end_nx, end_rt, oo_nil, oo_0, oo_s, dk_c, dk_m, dk_d, dk_set, dk_can, dk_app, permL, List.filterMap_cons, List.filterMap_nil, List.getElem?_cons_zero, List.getElem?_cons_succ, List.cons_append, List.nil_append, List.append_nil, at0, at1, at2, isi_int, isi_bool, isi_tup, eqvI, Option.some.injEq, exists_eq_left', true_and, and_true, wipeR, Bool.not_true, Bool.not_false, forall_const, List.map_cons, List.map_nil, reduceCtorEq, false_implies, implies_true, true_implies, Bool.true_eq_false, Bool.false_eq_true, eq_self, o_slc, i2_nh]
  refine sat_imp (hG _ d2 N hd2 (by omega) (by omega) (by omega)) ?_
  rintro _ ⟨z3, d3, rfl, z30, z31, hd3⟩
  simp only [sOk, sat_bad, own_c0, own_cs, set_c0, set_cs, getS_c0, getS_cs, e_var, e_bor, e_iou, e_mov, e_frz, frz_some, e_cst, e_glb, e_flat, e_op1, e_op2, e_chn, chn_b, e_and, e_or, e_ife, lst_l, e_tup, e_lst, e_nil, e_cons, e_sub, e_key, e_slc, e_nop, e_rev, e_blt, e_call, it_l, it_t, e_comp, e_val, int_i, e_rng1, e_rng2, zip_l, zip_t, e_zip, e_pop, e_dsp, t_b, t_i, o_neg, o_not, o_add, o_sub, o_mul, o_fdv, o_mod, o_pow, o_lt, o_le, o_gt, o_ge, o_eq, o_ne, o_addL, o_inn, o_nin, o_isn, o_isnn, o_subL, o_subT, o_len, o_lenT, o_tupl, o_list, o_int, o_abs, o_max, o_min, o_gcd, o_sum, o_all, o_any, rb, eqvS, rf_nil, rf_none, rf_some, p_nil, p_none, p_some, a_nm, a_tup, a_nil, a_cons, s_skp, then_nx, then_rt, then_bk, then_ct, s_seq, s_asg, s_fre, s_par, ps_nil, ps_cons, s_exp, s_ret, s_rtn, s_ifs, s_lop, s_brk, s_cnt, s_nvr, s_app, s_set, s_setK, c_lst, ap_lst, si_lst, end_nx, end_rt, oo_nil, oo_0, oo_s, dk_c, dk_m, dk_d, dk_set, dk_can, dk_app, permL, List.filterMap_cons, List.filterMap_nil, List.getElem?_cons_zero, List.getElem?_cons_succ, List.cons_append, List.nil_append, List.append_nil, at0, at1, at2, isi_int, isi_bool, isi_tup, eqvI, Option.some.injEq, exists_eq_left', true_and, and_true, wipeR, Bool.not_true, Bool.not_false, forall_const, List.map_cons, List.map_nil, reduceCtorEq, false_implies, implies_true, true_implies, Bool.true_eq_false, Bool.false_eq_true, eq_self, o_slc, i2_nh]
  refine loop_inv (I := fun i ρ => ∃ s8 : Slot, ρ = [some (2, d3), some (0, stripe (per L) c r), some (0, .tuple (eI x)), some (0, .tuple (eI t)), some (0, .int (per L)), some (0, .tuple (eI c)), some (0, .int r), some (0, .int N), s8, none]) _ 0 (fun i dd ρ hdd hI => ?_) ⟨none, rfl⟩ (fun ρ' hI => ?_)
  · obtain ⟨s8, rfl⟩ := hI
    have hk : ∃ k : Int, dd = .int k ∧ -(10 ^ 100) ≤ k ∧ k ≤ 10 ^ 100 := by
      have hm := List.mem_of_getElem? hdd
      simp only [List.mem_cons, List.not_mem_nil, or_false] at hm
      rcases hm with rfl | rfl | rfl | rfl | rfl | rfl | rfl | rfl <;> exact ⟨_, rfl, by omega, by omega⟩
    obtain ⟨k, rfl, k0, k1⟩ := hk
    simp only [loopB_sat, b_law_comes_again_2b, s_law_comes_again_2b_0, sOk, sat_bad, own_c0, own_cs, set_c0, set_cs, getS_c0, getS_cs, e_var, e_bor, e_iou, e_mov, e_frz, frz_some, e_cst, e_glb, e_flat, e_op1, e_op2, e_chn, chn_b, e_and, e_or, e_ife, lst_l, e_tup, e_lst, e_nil, e_cons, e_sub, e_key, e_slc, e_nop, e_rev, e_blt, e_call, it_l, it_t, e_comp, e_val, int_i, e_rng1, e_rng2, zip_l, zip_t, e_zip, e_pop, e_dsp, t_b, t_i, o_neg, o_not, o_add, o_sub, o_mul, o_fdv, o_mod, o_pow, o_lt, o_le, o_gt, o_ge, o_eq, o_ne, o_addL, o_inn, o_nin, o_isn, o_isnn, o_subL, o_subT, o_len, o_lenT, o_tupl, o_list, o_int, o_abs, o_max, o_min, o_gcd, o_sum, o_all, o_any, rb, eqvS, rf_nil, rf_none, rf_some, p_nil, p_none, p_some, a_nm, a_tup, a_nil, a_cons, s_skp, then_nx, then_rt, then_bk, then_ct, s_seq, s_asg, s_fre, s_par, ps_nil, ps_cons, s_exp, s_ret, s_rtn, s_ifs, s_lop, s_brk, s_cnt, s_nvr, s_app, s_set, s_setK, c_lst, ap_lst, si_lst, end_nx, end_rt, oo_nil, oo_0, oo_s, dk_c, dk_m, dk_d, dk_set, dk_can, dk_app, permL, List.filterMap_cons, List.filterMap_nil, List.getElem?_cons_zero, List.getElem?_cons_succ, List.cons_append, List.nil_append, List.append_nil, at0, at1, at2, isi_int, isi_bool, isi_tup, eqvI, Option.some.injEq, exists_eq_left', true_and, and_true, wipeR, Bool.not_true, Bool.not_false, forall_const, List.map_cons, List.map_nil, reduceCtorEq, false_implies, implies_true, true_implies, Bool.true_eq_false, Bool.false_eq_true, eq_self, o_slc, i2_nh]
    refine sat_imp (hM x t k (by omega) ht' (by omega)) ?_
    rintro _ rfl
    simp only [sOk, sat_bad, own_c0, own_cs, set_c0, set_cs, getS_c0, getS_cs, e_var, e_bor, e_iou, e_mov, e_frz, frz_some, e_cst, e_glb, e_flat, e_op1, e_op2, e_chn, chn_b, e_and, e_or, e_ife, lst_l, e_tup, e_lst, e_nil, e_cons, e_sub, e_key, e_slc, e_nop, e_rev, e_blt, e_call, it_l, it_t, e_comp, e_val, int_i, e_rng1, e_rng2, zip_l, zip_t, e_zip, e_pop, e_dsp, t_b, t_i, o_neg, o_not, o_add, o_sub, o_mul, o_fdv, o_mod, o_pow, o_lt, o_le, o_gt, o_ge, o_eq, o_ne, o_addL, o_inn, o_nin, o_isn, o_isnn, o_subL, o_subT, o_len, o_lenT, o_tupl, o_list, o_int, o_abs, o_max, o_min, o_gcd, o_sum, o_all, o_any, rb, eqvS, rf_nil, rf_none, rf_some, p_nil, p_none, p_some, a_nm, a_tup, a_nil, a_cons, s_skp, then_nx, then_rt, then_bk, then_ct, s_seq, s_asg, s_fre, s_par, ps_nil, ps_cons, s_exp, s_ret, s_rtn, s_ifs, s_lop, s_brk, s_cnt, s_nvr, s_app, s_set, s_setK, c_lst, ap_lst, si_lst, end_nx, end_rt, oo_nil, oo_0, oo_s, dk_c, dk_m, dk_d, dk_set, dk_can, dk_app, permL, List.filterMap_cons, List.filterMap_nil, List.getElem?_cons_zero, List.getElem?_cons_succ, List.cons_append, List.nil_append, List.append_nil, at0, at1, at2, isi_int, isi_bool, isi_tup, eqvI, Option.some.injEq, exists_eq_left', true_and, and_true, wipeR, Bool.not_true, Bool.not_false, forall_const, List.map_cons, List.map_nil, reduceCtorEq, false_implies, implies_true, true_implies, Bool.true_eq_false, Bool.false_eq_true, eq_self, o_slc, i2_nh]
    refine ⟨by omega, ⟨rfl, rfl⟩, ?_⟩
    refine sat_imp (item k _ ⟨k0, k1⟩ ⟨fun h => of_decide_eq_true h, fun h => decide_eq_true h⟩) ?_
    rintro _ rfl
    simp only [sOk, sat_bad, own_c0, own_cs, set_c0, set_cs, getS_c0, getS_cs, e_var, e_bor, e_iou, e_mov, e_frz, frz_some, e_cst, e_glb, e_flat, e_op1, e_op2, e_chn, chn_b, e_and, e_or, e_ife, lst_l, e_tup, e_lst, e_nil, e_cons, e_sub, e_key, e_slc, e_nop, e_rev, e_blt, e_call, it_l, it_t, e_comp, e_val, int_i, e_rng1, e_rng2, zip_l, zip_t, e_zip, e_pop, e_dsp, t_b, t_i, o_neg, o_not, o_add, o_sub, o_mul, o_fdv, o_mod, o_pow, o_lt, o_le, o_gt, o_ge, o_eq, o_ne, o_addL, o_inn, o_nin, o_isn, o_isnn, o_subL, o_subT, o_len, o_lenT, o_tupl, o_list, o_int, o_abs, o_max, o_min, o_gcd, o_sum, o_all, o_any, rb, eqvS, rf_nil, rf_none, rf_some, p_nil, p_none, p_some, a_nm, a_tup, a_nil, a_cons, s_skp, then_nx, then_rt, then_bk, then_ct, s_seq, s_asg, s_fre, s_par, ps_nil, ps_cons, s_exp, s_ret, s_rtn, s_ifs, s_lop, s_brk, s_cnt, s_nvr, s_app, s_set, s_setK, c_lst, ap_lst, si_lst, end_nx, end_rt, oo_nil, oo_0, oo_s, dk_c, dk_m, dk_d, dk_set, dk_can, dk_app, permL, List.filterMap_cons, List.filterMap_nil, List.getElem?_cons_zero, List.getElem?_cons_succ, List.cons_append, List.nil_append, List.append_nil, at0, at1, at2, isi_int, isi_bool, isi_tup, eqvI, Option.some.injEq, exists_eq_left', true_and, and_true, wipeR, Bool.not_true, Bool.not_false, forall_const, List.map_cons, List.map_nil, reduceCtorEq, false_implies, implies_true, true_implies, Bool.true_eq_false, Bool.false_eq_true, eq_self, o_slc, i2_nh]
    exact ⟨.inl trivial, _, rfl⟩
  · obtain ⟨s8, rfl⟩ := hI
    simp only [then_nx, s_seq, s_law_comes_again_3, sOk, sat_bad, own_c0, own_cs, set_c0, set_cs, getS_c0, getS_cs, e_var, e_bor, e_iou, e_mov, e_frz, frz_some, e_cst, e_glb, e_flat, e_op1, e_op2, e_chn, chn_b, e_and, e_or, e_ife, lst_l, e_tup, e_lst, e_nil, e_cons, e_sub, e_key, e_slc, e_nop, e_rev, e_blt, e_call, it_l, it_t, e_comp, e_val, int_i, e_rng1, e_rng2, zip_l, zip_t, e_zip, e_pop, e_dsp, t_b, t_i, o_neg, o_not, o_add, o_sub, o_mul, o_fdv, o_mod, o_pow, o_lt, o_le, o_gt, o_ge, o_eq, o_ne, o_addL, o_inn, o_nin, o_isn, o_isnn, o_subL, o_subT, o_len, o_lenT, o_tupl, o_list, o_int, o_abs, o_max, o_min, o_gcd, o_sum, o_all, o_any, rb, eqvS, rf_nil, rf_none, rf_some, p_nil, p_none, p_some, a_nm, a_tup, a_nil, a_cons, s_skp, then_nx, then_rt, then_bk, then_ct, s_seq, s_asg, s_fre, s_par, ps_nil, ps_cons, s_exp, s_ret, s_rtn, s_ifs, s_lop, s_brk, s_cnt, s_nvr, s_app, s_set, s_setK, c_lst, ap_lst, si_lst, end_nx, end_rt, oo_nil, oo_0, oo_s, dk_c, dk_m, dk_d, dk_set, dk_can, dk_app, permL, List.filterMap_cons, List.filterMap_nil, List.getElem?_cons_zero, List.getElem?_cons_succ, List.cons_append, List.nil_append, List.append_nil, at0, at1, at2, isi_int, isi_bool, isi_tup, eqvI, Option.some.injEq, exists_eq_left', true_and, and_true, wipeR, Bool.not_true, Bool.not_false, forall_const, List.map_cons, List.map_nil, reduceCtorEq, false_implies, implies_true, true_implies, Bool.true_eq_false, Bool.false_eq_true, eq_self, o_slc, i2_nh]
    refine loop_inv (I := fun i ρ => ∃ s9 : Slot, ρ = [some (2, d3), some (0, stripe (per L) c r), some (0, .tuple (eI x)), some (0, .tuple (eI t)), some (0, .int (per L)), some (0, .tuple (eI c)), some (0, .int r), some (0, .int N), s8, s9]) (eN [2, 3, 5, 7, 11, 13, 17, 19, 23, 29]) 0 (fun i dd ρ hdd hI => ?_) ⟨none, rfl⟩ (fun ρ' hI => ?_)
    · obtain ⟨s9, rfl⟩ := hI
      obtain ⟨p, hp, rfl⟩ := List.mem_map.mp (List.mem_of_getElem? hdd)
      have hp : p ∈ PR := hp
      have hpb := pr_bd hp
      simp only [loopB_sat, b_law_comes_again_3b, s_law_comes_again_3b_0, sOk, sat_bad, own_c0, own_cs, set_c0, set_cs, getS_c0, getS_cs, e_var, e_bor, e_iou, e_mov, e_frz, frz_some, e_cst, e_glb, e_flat, e_op1, e_op2, e_chn, chn_b, e_and, e_or, e_ife, lst_l, e_tup, e_lst, e_nil, e_cons, e_sub, e_key, e_slc, e_nop, e_rev, e_blt, e_call, it_l, it_t, e_comp, e_val, int_i, e_rng1, e_rng2, zip_l, zip_t, e_zip, e_pop, e_dsp, t_b, t_i, o_neg, o_not, o_add, o_sub, o_mul, o_fdv, o_mod, o_pow, o_lt, o_le, o_gt, o_ge, o_eq, o_ne, o_addL, o_inn, o_nin, o_isn, o_isnn, o_subL, o_subT, o_len, o_lenT, o_tupl, o_list, o_int, o_abs, o_max, o_min, o_gcd, o_sum, o_all, o_any, rb, eqvS, rf_nil, rf_none, rf_some, p_nil, p_none, p_some, a_nm, a_tup, a_nil, a_cons, s_skp, then_nx, then_rt, then_bk, then_ct, s_seq, s_asg, s_fre, s_par, ps_nil, ps_cons, s_exp, s_ret, s_rtn, s_ifs, s_lop, s_brk, s_cnt, s_nvr, s_app, s_set, s_setK, c_lst, ap_lst, si_lst, end_nx, end_rt, oo_nil, oo_0, oo_s, dk_c, dk_m, dk_d, dk_set, dk_can, dk_app, permL, List.filterMap_cons, List.filterMap_nil, List.getElem?_cons_zero, List.getElem?_cons_succ, List.cons_append, List.nil_append, List.append_nil, at0, at1, at2, isi_int, isi_bool, isi_tup, eqvI, Option.some.injEq, exists_eq_left', true_and, and_true, wipeR, Bool.not_true, Bool.not_false, forall_const, List.map_cons, List.map_nil, reduceCtorEq, false_implies, implies_true, true_implies, Bool.true_eq_false, Bool.false_eq_true, eq_self, o_slc, i2_nh]
      refine ⟨by omega, ⟨rfl, rfl⟩, fun hc => ?_, fun h => bF h ⟨.inl trivial, _, rfl⟩⟩
      have hc : p ∣ N := modN.mp (of_decide_eq_true hc)
      have hdl : N / p < N := Nat.div_lt_self hNp (by omega)
      have hdp : 0 < N / p := Nat.div_pos (Nat.le_of_dvd hNp hc) (by omega)
      refine ⟨⟨by omega, lg (by omega) (by omega)⟩, ?_⟩
      rw [← Int.natCast_ediv]
      refine sat_imp (hM x t (N / p : Nat) (by omega) ht' (by omega)) ?_
      rintro _ rfl
      simp only [sOk, sat_bad, own_c0, own_cs, set_c0, set_cs, getS_c0, getS_cs, e_var, e_bor, e_iou, e_mov, e_frz, frz_some, e_cst, e_glb, e_flat, e_op1, e_op2, e_chn, chn_b, e_and, e_or, e_ife, lst_l, e_tup, e_lst, e_nil, e_cons, e_sub, e_key, e_slc, e_nop, e_rev, e_blt, e_call, it_l, it_t, e_comp, e_val, int_i, e_rng1, e_rng2, zip_l, zip_t, e_zip, e_pop, e_dsp, t_b, t_i, o_neg, o_not, o_add, o_sub, o_mul, o_fdv, o_mod, o_pow, o_lt, o_le, o_gt, o_ge, o_eq, o_ne, o_addL, o_inn, o_nin, o_isn, o_isnn, o_subL, o_subT, o_len, o_lenT, o_tupl, o_list, o_int, o_abs, o_max, o_min, o_gcd, o_sum, o_all, o_any, rb, eqvS, rf_nil, rf_none, rf_some, p_nil, p_none, p_some, a_nm, a_tup, a_nil, a_cons, s_skp, then_nx, then_rt, then_bk, then_ct, s_seq, s_asg, s_fre, s_par, ps_nil, ps_cons, s_exp, s_ret, s_rtn, s_ifs, s_lop, s_brk, s_cnt, s_nvr, s_app, s_set, s_setK, c_lst, ap_lst, si_lst, end_nx, end_rt, oo_nil, oo_0, oo_s, dk_c, dk_m, dk_d, dk_set, dk_can, dk_app, permL, List.filterMap_cons, List.filterMap_nil, List.getElem?_cons_zero, List.getElem?_cons_succ, List.cons_append, List.nil_append, List.append_nil, at0, at1, at2, isi_int, isi_bool, isi_tup, eqvI, Option.some.injEq, exists_eq_left', true_and, and_true, wipeR, Bool.not_true, Bool.not_false, forall_const, List.map_cons, List.map_nil, reduceCtorEq, false_implies, implies_true, true_implies, Bool.true_eq_false, Bool.false_eq_true, eq_self, o_slc, i2_nh]
      refine sat_imp (item (N / p : Nat) false ⟨by omega, by omega⟩ ⟨fun h => (nomatch h), fun h => ?_⟩) ?_
      · have := modN.mp h
        have := Nat.le_of_dvd hdp this
        omega
      rintro _ rfl
      simp only [sOk, sat_bad, own_c0, own_cs, set_c0, set_cs, getS_c0, getS_cs, e_var, e_bor, e_iou, e_mov, e_frz, frz_some, e_cst, e_glb, e_flat, e_op1, e_op2, e_chn, chn_b, e_and, e_or, e_ife, lst_l, e_tup, e_lst, e_nil, e_cons, e_sub, e_key, e_slc, e_nop, e_rev, e_blt, e_call, it_l, it_t, e_comp, e_val, int_i, e_rng1, e_rng2, zip_l, zip_t, e_zip, e_pop, e_dsp, t_b, t_i, o_neg, o_not, o_add, o_sub, o_mul, o_fdv, o_mod, o_pow, o_lt, o_le, o_gt, o_ge, o_eq, o_ne, o_addL, o_inn, o_nin, o_isn, o_isnn, o_subL, o_subT, o_len, o_lenT, o_tupl, o_list, o_int, o_abs, o_max, o_min, o_gcd, o_sum, o_all, o_any, rb, eqvS, rf_nil, rf_none, rf_some, p_nil, p_none, p_some, a_nm, a_tup, a_nil, a_cons, s_skp, then_nx, then_rt, then_bk, then_ct, s_seq, s_asg, s_fre, s_par, ps_nil, ps_cons, s_exp, s_ret, s_rtn, s_ifs, s_lop, s_brk, s_cnt, s_nvr, s_app, s_set, s_setK, c_lst, ap_lst, si_lst, end_nx, end_rt, oo_nil, oo_0, oo_s, dk_c, dk_m, dk_d, dk_set, dk_can, dk_app, permL, List.filterMap_cons, List.filterMap_nil, List.getElem?_cons_zero, List.getElem?_cons_succ, List.cons_append, List.nil_append, List.append_nil, at0, at1, at2, isi_int, isi_bool, isi_tup, eqvI, Option.some.injEq, exists_eq_left', true_and, and_true, wipeR, Bool.not_true, Bool.not_false, forall_const, List.map_cons, List.map_nil, reduceCtorEq, false_implies, implies_true, true_implies, Bool.true_eq_false, Bool.false_eq_true, eq_self, o_slc, i2_nh]
      exact ⟨.inl trivial, _, rfl⟩
    · obtain ⟨s9, rfl⟩ := hI
      simp only [then_nx, s_law_comes_again_4, sOk, sat_bad, own_c0, own_cs, set_c0, set_cs, getS_c0, getS_cs, e_var, e_bor, e_iou, e_mov, e_frz, frz_some, e_cst, e_glb, e_flat, e_op1, e_op2, e_chn, chn_b, e_and, e_or, e_ife, lst_l, e_tup, e_lst, e_nil, e_cons, e_sub, e_key, e_slc, e_nop, e_rev, e_blt, e_call, it_l, it_t, e_comp, e_val, int_i, e_rng1, e_rng2, zip_l, zip_t, e_zip, e_pop, e_dsp, t_b, t_i, o_neg, o_not, o_add, o_sub, o_mul, o_fdv, o_mod, o_pow, o_lt, o_le, o_gt, o_ge, o_eq, o_ne, o_addL, o_inn, o_nin, o_isn, o_isnn, o_subL, o_subT, o_len, o_lenT, o_tupl, o_list, o_int, o_abs, o_max, o_min, o_gcd, o_sum, o_all, o_any, rb, eqvS, rf_nil, rf_none, rf_some, p_nil, p_none, p_some, a_nm, a_tup, a_nil, a_cons, s_skp, then_nx, then_rt, then_bk, then_ct, s_seq, s_asg, s_fre, s_par, ps_nil, ps_cons, s_exp, s_ret, s_rtn, s_ifs, s_lop, s_brk, s_cnt, s_nvr, s_app, s_set, s_setK, c_lst, ap_lst, si_lst, end_nx, end_rt, oo_nil, oo_0, oo_s, dk_c, dk_m, dk_d, dk_set, dk_can, dk_app, permL, List.filterMap_cons, List.filterMap_nil, List.getElem?_cons_zero, List.getElem?_cons_succ, List.cons_append, List.nil_append, List.append_nil, at0, at1, at2, isi_int, isi_bool, isi_tup, eqvI, Option.some.injEq, exists_eq_left', true_and, and_true, wipeR, Bool.not_true, Bool.not_false, forall_const, List.map_cons, List.map_nil, reduceCtorEq, false_implies, implies_true, true_implies, Bool.true_eq_false, Bool.false_eq_true, eq_self, o_slc, i2_nh]
      exact ⟨d3, rfl, hd3.mono (by omega)⟩
theorem parts_ok (hD : DrawOk (G i_law_draw)) (hS : SignedOk (G i_law_signed)) (hPr : ProductOk (G i_law_product)) (hA : ProdAtOk (G i_law_along)) (hM : MovedOk (G i_law_moved)) (hU : DueOk (G i_law_is_due)) : PartsOk (runDf G fu d_law_is_of_parts) := by
  intro b d L c r x P v r0 r1 hlx hx hd hb
  have hL : LIM = 1000000 := rfl
  have hT : TOP = 10 ^ 60 := rfl
  have hX : XB = 10 ^ 300 := rfl
  have htop : per L < 10 ^ 40 := P.top
  have hpos := P.pos
  have hlen := v.len
  have hfew := P.few
  have h9 : (10 : Int) ^ Int.toNat 9 = 10 ^ 9 := rfl
  rw [s_run rfl]
  show (exS G fu d_law_is_of_parts.body [some (2, d), some (0, .list (eP L)), some (0, stripe (per L) c r), some (0, .tuple (eI x)), none, none, none, none, none, none, none, none, none, none, none]).sat (endB [2, 0, 0, 0] _)
  simp only [d_law_is_of_parts, s_law_is_of_parts_0, sOk, sat_bad, own_c0, own_cs, set_c0, set_cs, getS_c0, getS_cs, e_var, e_bor, e_iou, e_mov, e_frz, frz_some, e_cst, e_glb, e_flat, e_op1, e_op2, e_chn, chn_b, e_and, e_or, e_ife, lst_l, e_tup, e_lst, e_nil, e_cons, e_sub, e_key, e_slc, e_nop, e_rev, e_blt, e_call, it_l, it_t, e_comp, e_val, int_i, e_rng1, e_rng2, zip_l, zip_t, e_zip, e_pop, e_dsp, t_b, t_i, o_neg, o_not, o_add, o_sub, o_mul, o_fdv, o_mod, o_pow, o_lt, o_le, o_gt, o_ge, o_eq, o_ne, o_addL, o_inn, o_nin, o_isn, o_isnn, o_subL, o_subT, o_len, o_lenT, o_tupl, o_list, o_int, o_abs, o_max, o_min, o_gcd, o_sum, o_all, o_any, rb, eqvS, rf_nil, rf_none, rf_some, p_nil, p_none, p_some, a_nm, a_tup, a_nil, a_cons, s_skp, then_nx, then_rt, then_bk, then_ct, s_seq, s_asg, s_fre, s_par, ps_nil, ps_cons, s_exp, s_ret, s_rtn, s_ifs, s_lop, s_brk, s_cnt, s_nvr, s_app, s_set, s_setK, c_lst, ap_lst, si_lst, end_nx, end_rt, oo_nil, oo_0, oo_s, dk_c, dk_m, dk_d, dk_set, dk_can, dk_app, permL, List.filterMap_cons, List.filterMap_nil, List.getElem?_cons_zero, List.getElem?_cons_succ, List.cons_append, List.nil_append, List.append_nil, at0, at1, at2, isi_int, isi_bool, isi_tup, eqvI, Option.some.injEq, exists_eq_left', true_and, and_true, wipeR, Bool.not_true, Bool.not_false, forall_const, List.map_cons, List.map_nil, reduceCtorEq, false_implies, implies_true, true_implies, Bool.true_eq_false, Bool.false_eq_true, eq_self, o_slc, i2_nh, stripe]
  simp only [s_law_is_of_parts_1, sOk, sat_bad, own_c0, own_cs, set_c0, set_cs, getS_c0, getS_cs, e_var, e_bor, e_iou, e_mov, e_frz, frz_some, e_cst, e_glb, e_flat, e_op1, e_op2, e_chn, chn_b, e_and, e_or, e_ife, lst_l, e_tup, e_lst, e_nil, e_cons, e_sub, e_key, e_slc, e_nop, e_rev, e_blt, e_call, it_l, it_t, e_comp, e_val, int_i, e_rng1, e_rng2, zip_l, zip_t, e_zip, e_pop, e_dsp, t_b, t_i, o_neg, o_not, o_add, o_sub, o_mul, o_fdv, o_mod, o_pow, o_lt, o_le, o_gt, o_ge, o_eq, o_ne, o_addL, o_inn, o_nin, o_isn, o_isnn, o_subL, o_subT, o_len, o_lenT, o_tupl, o_list, o_int, o_abs, o_max, o_min, o_gcd, o_sum, o_all, o_any, rb, eqvS, rf_nil, rf_none, rf_some, p_nil, p_none, p_some, a_nm, a_tup, a_nil, a_cons, s_skp, then_nx, then_rt, then_bk, then_ct, s_seq, s_asg, s_fre, s_par, ps_nil, ps_cons, s_exp, s_ret, s_rtn, s_ifs, s_lop, s_brk, s_cnt, s_nvr, s_app, s_set, s_setK, c_lst, ap_lst, si_lst, end_nx, end_rt, oo_nil, oo_0, oo_s, dk_c, dk_m, dk_d, dk_set, dk_can, dk_app, permL, List.filterMap_cons, List.filterMap_nil, List.getElem?_cons_zero, List.getElem?_cons_succ, List.cons_append, List.nil_append, List.append_nil, at0, at1, at2, isi_int, isi_bool, isi_tup, eqvI, Option.some.injEq, exists_eq_left', true_and, and_true, wipeR, Bool.not_true, Bool.not_false, forall_const, List.map_cons, List.map_nil, reduceCtorEq, false_implies, implies_true, true_implies, Bool.true_eq_false, Bool.false_eq_true, eq_self, o_slc, i2_nh]
  refine ⟨⟨rfl, by rw [List.length_map]; omega⟩, ?_⟩
  refine comp_inv (I := fun i acc ρ => ∃ (qs : List Nat) (d' : PyData), acc = eN qs ∧ ρ = [some (2, d'), some (0, .list (eP L)), some (0, stripe (per L) c r), some (0, .tuple (eI x)), some (0, .int (per L)), some (0, .tuple (eI c)), some (0, .int r), none, none, none, none, none, none, none, none] ∧ (∀ q ∈ qs, 1 ≤ q) ∧ prodN qs ≤ prodN ((L.take i).map Prod.snd) ∧ Deck (b + i) d')
    (eP L) 0 [] (fun i dd acc ρ hdd hI => ?_) ⟨[], d, rfl, rfl, (fun _ h => nomatch h), by simp, hd⟩ (fun l ρ' hI => ?_)
  · rw [Nat.zero_add] at hI ⊢
    obtain ⟨qs, d1, rfl, rfl, hq1, hqp, hd1⟩ := hI
    obtain ⟨x, hx, rfl⟩ := getP hdd
    have hi := lt_of_get hx
    have hqb := q_lt P (List.mem_of_getElem? hx)
    have e1 : prodN ((L.take (i + 1)).map Prod.snd) = prodN ((L.take i).map Prod.snd) * x.2 := by
      rw [take_snoc hx, List.map_append, prodN_app]
      simp [prodN]
    simp only [compB_sat, sOk, sat_bad, own_c0, own_cs, set_c0, set_cs, getS_c0, getS_cs, e_var, e_bor, e_iou, e_mov, e_frz, frz_some, e_cst, e_glb, e_flat, e_op1, e_op2, e_chn, chn_b, e_and, e_or, e_ife, lst_l, e_tup, e_lst, e_nil, e_cons, e_sub, e_key, e_slc, e_nop, e_rev, e_blt, e_call, it_l, it_t, e_comp, e_val, int_i, e_rng1, e_rng2, zip_l, zip_t, e_zip, e_pop, e_dsp, t_b, t_i, o_neg, o_not, o_add, o_sub, o_mul, o_fdv, o_mod, o_pow, o_lt, o_le, o_gt, o_ge, o_eq, o_ne, o_addL, o_inn, o_nin, o_isn, o_isnn, o_subL, o_subT, o_len, o_lenT, o_tupl, o_list, o_int, o_abs, o_max, o_min, o_gcd, o_sum, o_all, o_any, rb, eqvS, rf_nil, rf_none, rf_some, p_nil, p_none, p_some, a_nm, a_tup, a_nil, a_cons, s_skp, then_nx, then_rt, then_bk, then_ct, s_seq, s_asg, s_fre, s_par, ps_nil, ps_cons, s_exp, s_ret, s_rtn, s_ifs, s_lop, s_brk, s_cnt, s_nvr, s_app, s_set, s_setK, c_lst, ap_lst, si_lst, end_nx, end_rt, oo_nil, oo_0, oo_s, dk_c, dk_m, dk_d, dk_set, dk_can, dk_app, permL, List.filterMap_cons, List.filterMap_nil, List.getElem?_cons_zero, List.getElem?_cons_succ, List.cons_append, List.nil_append, List.append_nil, at0, at1, at2, isi_int, isi_bool, isi_tup, eqvI, Option.some.injEq, exists_eq_left', true_and, and_true, wipeR, Bool.not_true, Bool.not_false, forall_const, List.map_cons, List.map_nil, reduceCtorEq, false_implies, implies_true, true_implies, Bool.true_eq_false, Bool.false_eq_true, eq_self, o_slc, i2_nh]
    refine sat_imp (hD _ d1 2 hd1 (by omega) (by omega) (by omega)) ?_
    rintro _ ⟨z, d2, rfl, z0, z1, hd2⟩
    simp only [sOk, sat_bad, own_c0, own_cs, set_c0, set_cs, getS_c0, getS_cs, e_var, e_bor, e_iou, e_mov, e_frz, frz_some, e_cst, e_glb, e_flat, e_op1, e_op2, e_chn, chn_b, e_and, e_or, e_ife, lst_l, e_tup, e_lst, e_nil, e_cons, e_sub, e_key, e_slc, e_nop, e_rev, e_blt, e_call, it_l, it_t, e_comp, e_val, int_i, e_rng1, e_rng2, zip_l, zip_t, e_zip, e_pop, e_dsp, t_b, t_i, o_neg, o_not, o_add, o_sub, o_mul, o_fdv, o_mod, o_pow, o_lt, o_le, o_gt, o_ge, o_eq, o_ne, o_addL, o_inn, o_nin, o_isn, o_isnn, o_subL, o_subT, o_len, o_lenT, o_tupl, o_list, o_int, o_abs, o_max, o_min, o_gcd, o_sum, o_all, o_any, rb, eqvS, rf_nil, rf_none, rf_some, p_nil, p_none, p_some, a_nm, a_tup, a_nil, a_cons, s_skp, then_nx, then_rt, then_bk, then_ct, s_seq, s_asg, s_fre, s_par, ps_nil, ps_cons, s_exp, s_ret, s_rtn, s_ifs, s_lop, s_brk, s_cnt, s_nvr, s_app, s_set, s_setK, c_lst, ap_lst, si_lst, end_nx, end_rt, oo_nil, oo_0, oo_s, dk_c, dk_m, dk_d, dk_set, dk_can, dk_app, permL, List.filterMap_cons, List.filterMap_nil, List.getElem?_cons_zero, List.getElem?_cons_succ, List.cons_append, List.nil_append, List.append_nil, at0, at1, at2, isi_int, isi_bool, isi_tup, eqvI, Option.some.injEq, exists_eq_left', true_and, and_true, wipeR, Bool.not_true, Bool.not_false, forall_const, List.map_cons, List.map_nil, reduceCtorEq, false_implies, implies_true, true_implies, Bool.true_eq_false, Bool.false_eq_true, eq_self, o_slc, i2_nh]
    refine ⟨⟨rfl, rfl⟩, fun _ => ?_, fun _ => ?_⟩
    · refine ⟨qs ++ [x.2], d2, by simp only [eN, List.map_append, List.map_cons, List.map_nil, Option.toList], rfl, fun q hq => ?_, ?_, hd2⟩
      · rcases List.mem_append.mp hq with hq | hq
        · exact hq1 q hq
        · rw [List.mem_singleton.mp hq]; omega
      · rw [e1, prodN_app]
        simp only [prodN, Nat.mul_one]
        exact Nat.mul_le_mul_right _ hqp
    · refine ⟨qs, d2, by simp only [Option.toList, List.append_nil], rfl, hq1, ?_, hd2⟩
      rw [e1]
      exact Nat.le_trans hqp (Nat.le_mul_of_pos_right _ hqb.2)
  · obtain ⟨qs, d1, e, rfl, hq1, hqp, hd1⟩ := hI
    rw [List.nil_append] at e
    subst e
    rw [List.length_map, Nat.zero_add] at hqp hd1
    rw [List.take_length] at hqp
    have hlt : prodN qs < 10 ^ 40 := by unfold per at htop; omega
    simp only [sOk, sat_bad, own_c0, own_cs, set_c0, set_cs, getS_c0, getS_cs, e_var, e_bor, e_iou, e_mov, e_frz, frz_some, e_cst, e_glb, e_flat, e_op1, e_op2, e_chn, chn_b, e_and, e_or, e_ife, lst_l, e_tup, e_lst, e_nil, e_cons, e_sub, e_key, e_slc, e_nop, e_rev, e_blt, e_call, it_l, it_t, e_comp, e_val, int_i, e_rng1, e_rng2, zip_l, zip_t, e_zip, e_pop, e_dsp, t_b, t_i, o_neg, o_not, o_add, o_sub, o_mul, o_fdv, o_mod, o_pow, o_lt, o_le, o_gt, o_ge, o_eq, o_ne, o_addL, o_inn, o_nin, o_isn, o_isnn, o_subL, o_subT, o_len, o_lenT, o_tupl, o_list, o_int, o_abs, o_max, o_min, o_gcd, o_sum, o_all, o_any, rb, eqvS, rf_nil, rf_none, rf_some, p_nil, p_none, p_some, a_nm, a_tup, a_nil, a_cons, s_skp, then_nx, then_rt, then_bk, then_ct, s_seq, s_asg, s_fre, s_par, ps_nil, ps_cons, s_exp, s_ret, s_rtn, s_ifs, s_lop, s_brk, s_cnt, s_nvr, s_app, s_set, s_setK, c_lst, ap_lst, si_lst, end_nx, end_rt, oo_nil, oo_0, oo_s, dk_c, dk_m, dk_d, dk_set, dk_can, dk_app, permL, List.filterMap_cons, List.filterMap_nil, List.getElem?_cons_zero, List.getElem?_cons_succ, List.cons_append, List.nil_append, List.append_nil, at0, at1, at2, isi_int, isi_bool, isi_tup, eqvI, Option.some.injEq, exists_eq_left', true_and, and_true, wipeR, Bool.not_true, Bool.not_false, forall_const, List.map_cons, List.map_nil, reduceCtorEq, false_implies, implies_true, true_implies, Bool.true_eq_false, Bool.false_eq_true, eq_self, o_slc, i2_nh, stripe]
    refine sat_imp (prodOkN hPr hq1 hlt) ?_
    rintro _ rfl
    simp only [sOk, sat_bad, own_c0, own_cs, set_c0, set_cs, getS_c0, getS_cs, e_var, e_bor, e_iou, e_mov, e_frz, frz_some, e_cst, e_glb, e_flat, e_op1, e_op2, e_chn, chn_b, e_and, e_or, e_ife, lst_l, e_tup, e_lst, e_nil, e_cons, e_sub, e_key, e_slc, e_nop, e_rev, e_blt, e_call, it_l, it_t, e_comp, e_val, int_i, e_rng1, e_rng2, zip_l, zip_t, e_zip, e_pop, e_dsp, t_b, t_i, o_neg, o_not, o_add, o_sub, o_mul, o_fdv, o_mod, o_pow, o_lt, o_le, o_gt, o_ge, o_eq, o_ne, o_addL, o_inn, o_nin, o_isn, o_isnn, o_subL, o_subT, o_len, o_lenT, o_tupl, o_list, o_int, o_abs, o_max, o_min, o_gcd, o_sum, o_all, o_any, rb, eqvS, rf_nil, rf_none, rf_some, p_nil, p_none, p_some, a_nm, a_tup, a_nil, a_cons, s_skp, then_nx, then_rt, then_bk, then_ct, s_seq, s_asg, s_fre, s_par, ps_nil, ps_cons, s_exp, s_ret, s_rtn, s_ifs, s_lop, s_brk, s_cnt, s_nvr, s_app, s_set, s_setK, c_lst, ap_lst, si_lst, end_nx, end_rt, oo_nil, oo_0, oo_s, dk_c, dk_m, dk_d, dk_set, dk_can, dk_app, permL, List.filterMap_cons, List.filterMap_nil, List.getElem?_cons_zero, List.getElem?_cons_succ, List.cons_append, List.nil_append, List.append_nil, at0, at1, at2, isi_int, isi_bool, isi_tup, eqvI, Option.some.injEq, exists_eq_left', true_and, and_true, wipeR, Bool.not_true, Bool.not_false, forall_const, List.map_cons, List.map_nil, reduceCtorEq, false_implies, implies_true, true_implies, Bool.true_eq_false, Bool.false_eq_true, eq_self, o_slc, i2_nh]
    generalize hM0 : prodN qs = M at *
    simp only [s_law_is_of_parts_2, sOk, sat_bad, own_c0, own_cs, set_c0, set_cs, getS_c0, getS_cs, e_var, e_bor, e_iou, e_mov, e_frz, frz_some, e_cst, e_glb, e_flat, e_op1, e_op2, e_chn, chn_b, e_and, e_or, e_ife, lst_l, e_tup, e_lst, e_nil, e_cons, e_sub, e_key, e_slc, e_nop, e_rev, e_blt, e_call, it_l, it_t, e_comp, e_val, int_i, e_rng1, e_rng2, zip_l, zip_t, e_zip, e_pop, e_dsp, t_b, t_i, o_neg, o_not, o_add, o_sub, o_mul, o_fdv, o_mod, o_pow, o_lt, o_le, o_gt, o_ge, o_eq, o_ne, o_addL, o_inn, o_nin, o_isn, o_isnn, o_subL, o_subT, o_len, o_lenT, o_tupl, o_list, o_int, o_abs, o_max, o_min, o_gcd, o_sum, o_all, o_any, rb, eqvS, rf_nil, rf_none, rf_some, p_nil, p_none, p_some, a_nm, a_tup, a_nil, a_cons, s_skp, then_nx, then_rt, then_bk, then_ct, s_seq, s_asg, s_fre, s_par, ps_nil, ps_cons, s_exp, s_ret, s_rtn, s_ifs, s_lop, s_brk, s_cnt, s_nvr, s_app, s_set, s_setK, c_lst, ap_lst, si_lst, end_nx, end_rt, oo_nil, oo_0, oo_s, dk_c, dk_m, dk_d, dk_set, dk_can, dk_app, permL, List.filterMap_cons, List.filterMap_nil, List.getElem?_cons_zero, List.getElem?_cons_succ, List.cons_append, List.nil_append, List.append_nil, at0, at1, at2, isi_int, isi_bool, isi_tup, eqvI, Option.some.injEq, exists_eq_left', true_and, and_true, wipeR, Bool.not_true, Bool.not_false, forall_const, List.map_cons, List.map_nil, reduceCtorEq, false_implies, implies_true, true_implies, Bool.true_eq_false, Bool.false_eq_true, eq_self, o_slc, i2_nh, h9]
    refine ⟨⟨rfl, by rw [List.length_map]; omega⟩, ?_⟩
    refine comp_inv (I := fun i acc ρ => ∃ (t : List Int) (d' : PyData), acc = eI t ∧ ρ = [some (2, d'), some (0, .list (eP L)), some (0, stripe (per L) c r), some (0, .tuple (eI x)), some (0, .int (per L)), some (0, .tuple (eI c)), some (0, .int r), some (0, .int M), none, none, none, none, none, none, none] ∧ t.length = i ∧ BdT t ∧ Deck (b + 20 + 30 * i) d')
      (eI c) 0 [] (fun i dd acc ρ hdd hI => ?_) ⟨[], d1, rfl, rfl, rfl, (fun _ h => nomatch h), hd1.mono (by omega)⟩ (fun l ρ' hI => ?_)
    · have hi : i < c.length := by
        have := lt_of_get hdd
        rwa [List.length_map] at this
      rw [Nat.zero_add] at hI ⊢
      obtain ⟨t, d2, rfl, rfl, hlent, hbd, hd2⟩ := hI
      simp only [compB_sat, sOk, sat_bad, own_c0, own_cs, set_c0, set_cs, getS_c0, getS_cs, e_var, e_bor, e_iou, e_mov, e_frz, frz_some, e_cst, e_glb, e_flat, e_op1, e_op2, e_chn, chn_b, e_and, e_or, e_ife, lst_l, e_tup, e_lst, e_nil, e_cons, e_sub, e_key, e_slc, e_nop, e_rev, e_blt, e_call, it_l, it_t, e_comp, e_val, int_i, e_rng1, e_rng2, zip_l, zip_t, e_zip, e_pop, e_dsp, t_b, t_i, o_neg, o_not, o_add, o_sub, o_mul, o_fdv, o_mod, o_pow, o_lt, o_le, o_gt, o_ge, o_eq, o_ne, o_addL, o_inn, o_nin, o_isn, o_isnn, o_subL, o_subT, o_len, o_lenT, o_tupl, o_list, o_int, o_abs, o_max, o_min, o_gcd, o_sum, o_all, o_any, rb, eqvS, rf_nil, rf_none, rf_some, p_nil, p_none, p_some, a_nm, a_tup, a_nil, a_cons, s_skp, then_nx, then_rt, then_bk, then_ct, s_seq, s_asg, s_fre, s_par, ps_nil, ps_cons, s_exp, s_ret, s_rtn, s_ifs, s_lop, s_brk, s_cnt, s_nvr, s_app, s_set, s_setK, c_lst, ap_lst, si_lst, end_nx, end_rt, oo_nil, oo_0, oo_s, dk_c, dk_m, dk_d, dk_set, dk_can, dk_app, permL, List.filterMap_cons, List.filterMap_nil, List.getElem?_cons_zero, List.getElem?_cons_succ, List.cons_append, List.nil_append, List.append_nil, at0, at1, at2, isi_int, isi_bool, isi_tup, eqvI, Option.some.injEq, exists_eq_left', true_and, and_true, wipeR, Bool.not_true, Bool.not_false, forall_const, List.map_cons, List.map_nil, reduceCtorEq, false_implies, implies_true, true_implies, Bool.true_eq_false, Bool.false_eq_true, eq_self, o_slc, i2_nh, h9]
      refine ⟨by decide, ?_⟩
      refine sat_imp (hS _ d2 (10 ^ 9) hd2 (by omega) (by decide) (by decide)) ?_
      rintro _ ⟨z, d3, rfl, z0, z1, hd3⟩
      simp only [sOk, sat_bad, own_c0, own_cs, set_c0, set_cs, getS_c0, getS_cs, e_var, e_bor, e_iou, e_mov, e_frz, frz_some, e_cst, e_glb, e_flat, e_op1, e_op2, e_chn, chn_b, e_and, e_or, e_ife, lst_l, e_tup, e_lst, e_nil, e_cons, e_sub, e_key, e_slc, e_nop, e_rev, e_blt, e_call, it_l, it_t, e_comp, e_val, int_i, e_rng1, e_rng2, zip_l, zip_t, e_zip, e_pop, e_dsp, t_b, t_i, o_neg, o_not, o_add, o_sub, o_mul, o_fdv, o_mod, o_pow, o_lt, o_le, o_gt, o_ge, o_eq, o_ne, o_addL, o_inn, o_nin, o_isn, o_isnn, o_subL, o_subT, o_len, o_lenT, o_tupl, o_list, o_int, o_abs, o_max, o_min, o_gcd, o_sum, o_all, o_any, rb, eqvS, rf_nil, rf_none, rf_some, p_nil, p_none, p_some, a_nm, a_tup, a_nil, a_cons, s_skp, then_nx, then_rt, then_bk, then_ct, s_seq, s_asg, s_fre, s_par, ps_nil, ps_cons, s_exp, s_ret, s_rtn, s_ifs, s_lop, s_brk, s_cnt, s_nvr, s_app, s_set, s_setK, c_lst, ap_lst, si_lst, end_nx, end_rt, oo_nil, oo_0, oo_s, dk_c, dk_m, dk_d, dk_set, dk_can, dk_app, permL, List.filterMap_cons, List.filterMap_nil, List.getElem?_cons_zero, List.getElem?_cons_succ, List.cons_append, List.nil_append, List.append_nil, at0, at1, at2, isi_int, isi_bool, isi_tup, eqvI, Option.some.injEq, exists_eq_left', true_and, and_true, wipeR, Bool.not_true, Bool.not_false, forall_const, List.map_cons, List.map_nil, reduceCtorEq, false_implies, implies_true, true_implies, Bool.true_eq_false, Bool.false_eq_true, eq_self, o_slc, i2_nh]
      refine ⟨t ++ [z], d3, by simp only [eI, List.map_append, List.map_cons, List.map_nil, Option.toList], rfl, by rw [List.length_append, hlent]; rfl, fun a ha => ?_, hd3.mono (by omega)⟩
      rcases List.mem_append.mp ha with ha | ha
      · exact hbd a ha
      · rw [List.mem_singleton.mp ha]
        omega
    · obtain ⟨t, d2, e, rfl, hlent, hbd, hd2⟩ := hI
      rw [List.nil_append] at e
      subst e
      rw [List.length_map] at hlent hd2
      have ht' : Bd t := fun a ha => by have := hbd a ha; omega
      simp only [sOk, sat_bad, own_c0, own_cs, set_c0, set_cs, getS_c0, getS_cs, e_var, e_bor, e_iou, e_mov, e_frz, frz_some, e_cst, e_glb, e_flat, e_op1, e_op2, e_chn, chn_b, e_and, e_or, e_ife, lst_l, e_tup, e_lst, e_nil, e_cons, e_sub, e_key, e_slc, e_nop, e_rev, e_blt, e_call, it_l, it_t, e_comp, e_val, int_i, e_rng1, e_rng2, zip_l, zip_t, e_zip, e_pop, e_dsp, t_b, t_i, o_neg, o_not, o_add, o_sub, o_mul, o_fdv, o_mod, o_pow, o_lt, o_le, o_gt, o_ge, o_eq, o_ne, o_addL, o_inn, o_nin, o_isn, o_isnn, o_subL, o_subT, o_len, o_lenT, o_tupl, o_list, o_int, o_abs, o_max, o_min, o_gcd, o_sum, o_all, o_any, rb, eqvS, rf_nil, rf_none, rf_some, p_nil, p_none, p_some, a_nm, a_tup, a_nil, a_cons, s_skp, then_nx, then_rt, then_bk, then_ct, s_seq, s_asg, s_fre, s_par, ps_nil, ps_cons, s_exp, s_ret, s_rtn, s_ifs, s_lop, s_brk, s_cnt, s_nvr, s_app, s_set, s_setK, c_lst, ap_lst, si_lst, end_nx, end_rt, oo_nil, oo_0, oo_s, dk_c, dk_m, dk_d, dk_set, dk_can, dk_app, permL, List.filterMap_cons, List.filterMap_nil, List.getElem?_cons_zero, List.getElem?_cons_succ, List.cons_append, List.nil_append, List.append_nil, at0, at1, at2, isi_int, isi_bool, isi_tup, eqvI, Option.some.injEq, exists_eq_left', true_and, and_true, wipeR, Bool.not_true, Bool.not_false, forall_const, List.map_cons, List.map_nil, reduceCtorEq, false_implies, implies_true, true_implies, Bool.true_eq_false, Bool.false_eq_true, eq_self, o_slc, i2_nh]
      refine sat_imp (hM x t M (by omega) ht' (by omega)) ?_
      rintro _ rfl
      simp only [sOk, sat_bad, own_c0, own_cs, set_c0, set_cs, getS_c0, getS_cs, e_var, e_bor, e_iou, e_mov, e_frz, frz_some, e_cst, e_glb, e_flat, e_op1, e_op2, e_chn, chn_b, e_and, e_or, e_ife, lst_l, e_tup, e_lst, e_nil, e_cons, e_sub, e_key, e_slc, e_nop, e_rev, e_blt, e_call, it_l, it_t, e_comp, e_val, int_i, e_rng1, e_rng2, zip_l, zip_t, e_zip, e_pop, e_dsp, t_b, t_i, o_neg, o_not, o_add, o_sub, o_mul, o_fdv, o_mod, o_pow, o_lt, o_le, o_gt, o_ge, o_eq, o_ne, o_addL, o_inn, o_nin, o_isn, o_isnn, o_subL, o_subT, o_len, o_lenT, o_tupl, o_list, o_int, o_abs, o_max, o_min, o_gcd, o_sum, o_all, o_any, rb, eqvS, rf_nil, rf_none, rf_some, p_nil, p_none, p_some, a_nm, a_tup, a_nil, a_cons, s_skp, then_nx, then_rt, then_bk, then_ct, s_seq, s_asg, s_fre, s_par, ps_nil, ps_cons, s_exp, s_ret, s_rtn, s_ifs, s_lop, s_brk, s_cnt, s_nvr, s_app, s_set, s_setK, c_lst, ap_lst, si_lst, end_nx, end_rt, oo_nil, oo_0, oo_s, dk_c, dk_m, dk_d, dk_set, dk_can, dk_app, permL, List.filterMap_cons, List.filterMap_nil, List.getElem?_cons_zero, List.getElem?_cons_succ, List.cons_append, List.nil_append, List.append_nil, at0, at1, at2, isi_int, isi_bool, isi_tup, eqvI, Option.some.injEq, exists_eq_left', true_and, and_true, wipeR, Bool.not_true, Bool.not_false, forall_const, List.map_cons, List.map_nil, reduceCtorEq, false_implies, implies_true, true_implies, Bool.true_eq_false, Bool.false_eq_true, eq_self, o_slc, i2_nh]
      have hly : (mv x t M).length = c.length := (mv_len (by omega)).trans hlx
      have hby : Bd (mv x t M) := mv_bd hx hbd (by omega)
      generalize hy : mv x t M = y at *
      simp only [s_law_is_of_parts_3, sOk, sat_bad, own_c0, own_cs, set_c0, set_cs, getS_c0, getS_cs, e_var, e_bor, e_iou, e_mov, e_frz, frz_some, e_cst, e_glb, e_flat, e_op1, e_op2, e_chn, chn_b, e_and, e_or, e_ife, lst_l, e_tup, e_lst, e_nil, e_cons, e_sub, e_key, e_slc, e_nop, e_rev, e_blt, e_call, it_l, it_t, e_comp, e_val, int_i, e_rng1, e_rng2, zip_l, zip_t, e_zip, e_pop, e_dsp, t_b, t_i, o_neg, o_not, o_add, o_sub, o_mul, o_fdv, o_mod, o_pow, o_lt, o_le, o_gt, o_ge, o_eq, o_ne, o_addL, o_inn, o_nin, o_isn, o_isnn, o_subL, o_subT, o_len, o_lenT, o_tupl, o_list, o_int, o_abs, o_max, o_min, o_gcd, o_sum, o_all, o_any, rb, eqvS, rf_nil, rf_none, rf_some, p_nil, p_none, p_some, a_nm, a_tup, a_nil, a_cons, s_skp, then_nx, then_rt, then_bk, then_ct, s_seq, s_asg, s_fre, s_par, ps_nil, ps_cons, s_exp, s_ret, s_rtn, s_ifs, s_lop, s_brk, s_cnt, s_nvr, s_app, s_set, s_setK, c_lst, ap_lst, si_lst, end_nx, end_rt, oo_nil, oo_0, oo_s, dk_c, dk_m, dk_d, dk_set, dk_can, dk_app, permL, List.filterMap_cons, List.filterMap_nil, List.getElem?_cons_zero, List.getElem?_cons_succ, List.cons_append, List.nil_append, List.append_nil, at0, at1, at2, isi_int, isi_bool, isi_tup, eqvI, Option.some.injEq, exists_eq_left', true_and, and_true, wipeR, Bool.not_true, Bool.not_false, forall_const, List.map_cons, List.map_nil, reduceCtorEq, false_implies, implies_true, true_implies, Bool.true_eq_false, Bool.false_eq_true, eq_self, o_slc, i2_nh]
      simp only [s_law_is_of_parts_4, sOk, sat_bad, own_c0, own_cs, set_c0, set_cs, getS_c0, getS_cs, e_var, e_bor, e_iou, e_mov, e_frz, frz_some, e_cst, e_glb, e_flat, e_op1, e_op2, e_chn, chn_b, e_and, e_or, e_ife, lst_l, e_tup, e_lst, e_nil, e_cons, e_sub, e_key, e_slc, e_nop, e_rev, e_blt, e_call, it_l, it_t, e_comp, e_val, int_i, e_rng1, e_rng2, zip_l, zip_t, e_zip, e_pop, e_dsp, t_b, t_i, o_neg, o_not, o_add, o_sub, o_mul, o_fdv, o_mod, o_pow, o_lt, o_le, o_gt, o_ge, o_eq, o_ne, o_addL, o_inn, o_nin, o_isn, o_isnn, o_subL, o_subT, o_len, o_lenT, o_tupl, o_list, o_int, o_abs, o_max, o_min, o_gcd, o_sum, o_all, o_any, rb, eqvS, rf_nil, rf_none, rf_some, p_nil, p_none, p_some, a_nm, a_tup, a_nil, a_cons, s_skp, then_nx, then_rt, then_bk, then_ct, s_seq, s_asg, s_fre, s_par, ps_nil, ps_cons, s_exp, s_ret, s_rtn, s_ifs, s_lop, s_brk, s_cnt, s_nvr, s_app, s_set, s_setK, c_lst, ap_lst, si_lst, end_nx, end_rt, oo_nil, oo_0, oo_s, dk_c, dk_m, dk_d, dk_set, dk_can, dk_app, permL, List.filterMap_cons, List.filterMap_nil, List.getElem?_cons_zero, List.getElem?_cons_succ, List.cons_append, List.nil_append, List.append_nil, at0, at1, at2, isi_int, isi_bool, isi_tup, eqvI, Option.some.injEq, exists_eq_left', true_and, and_true, wipeR, Bool.not_true, Bool.not_false, forall_const, List.map_cons, List.map_nil, reduceCtorEq, false_implies, implies_true, true_implies, Bool.true_eq_false, Bool.false_eq_true, eq_self, o_slc, i2_nh]
      refine loop_inv (I := fun j ρ => ∃ (s : Bool) (s10 s11 s12 : Slot), ρ = [some (2, d2), some (0, .list (eP L)), some (0, stripe (per L) c r), some (0, .tuple (eI x)), some (0, .int (per L)), some (0, .tuple (eI c)), some (0, .int r), some (0, .int M), some (0, .tuple (eI y)), some (0, .bool s), s10, s11, s12, none, none] ∧ (s = true ↔ ∀ z ∈ L.take j, (dot c y - r) % (z.2 : Int) = 0))
        (eP L) 0 (fun j dj ρ hdj hJ => ?_) ⟨true, none, none, none, rfl, by simp⟩ (fun ρ' hJ => ?_)
      · rw [Nat.zero_add] at hJ ⊢
        obtain ⟨s, s10, s11, s12, rfl, hs⟩ := hJ
        obtain ⟨z, hz, rfl⟩ := getP hdj
        have hzL := List.mem_of_getElem? hz
        have hqb := q_lt P hzL
        have e1 : per [z] = z.2 := by simp [per, prodN]
        simp only [loopB_sat, b_law_is_of_parts_4b, s_law_is_of_parts_4b_0, sOk, sat_bad, own_c0, own_cs, set_c0, set_cs, getS_c0, getS_cs, e_var, e_bor, e_iou, e_mov, e_frz, frz_some, e_cst, e_glb, e_flat, e_op1, e_op2, e_chn, chn_b, e_and, e_or, e_ife, lst_l, e_tup, e_lst, e_nil, e_cons, e_sub, e_key, e_slc, e_nop, e_rev, e_blt, e_call, it_l, it_t, e_comp, e_val, int_i, e_rng1, e_rng2, zip_l, zip_t, e_zip, e_pop, e_dsp, t_b, t_i, o_neg, o_not, o_add, o_sub, o_mul, o_fdv, o_mod, o_pow, o_lt, o_le, o_gt, o_ge, o_eq, o_ne, o_addL, o_inn, o_nin, o_isn, o_isnn, o_subL, o_subT, o_len, o_lenT, o_tupl, o_list, o_int, o_abs, o_max, o_min, o_gcd, o_sum, o_all, o_any, rb, eqvS, rf_nil, rf_none, rf_some, p_nil, p_none, p_some, a_nm, a_tup, a_nil, a_cons, s_skp, then_nx, then_rt, then_bk, then_ct, s_seq, s_asg, s_fre, s_par, ps_nil, ps_cons, s_exp, s_ret, s_rtn, s_ifs, s_lop, s_brk, s_cnt, s_nvr, s_app, s_set, s_setK, c_lst, ap_lst, si_lst, end_nx, end_rt, oo_nil, oo_0, oo_s, dk_c, dk_m, dk_d, dk_set, dk_can, dk_app, permL, List.filterMap_cons, List.filterMap_nil, List.getElem?_cons_zero, List.getElem?_cons_succ, List.cons_append, List.nil_append, List.append_nil, at0, at1, at2, isi_int, isi_bool, isi_tup, eqvI, Option.some.injEq, exists_eq_left', true_and, and_true, wipeR, Bool.not_true, Bool.not_false, forall_const, List.map_cons, List.map_nil, reduceCtorEq, false_implies, implies_true, true_implies, Bool.true_eq_false, Bool.false_eq_true, eq_self, o_slc, i2_nh]
        refine sat_imp (hA c y (by omega) (v.bd P) hby) ?_
        rintro _ rfl
        simp only [sOk, sat_bad, own_c0, own_cs, set_c0, set_cs, getS_c0, getS_cs, e_var, e_bor, e_iou, e_mov, e_frz, frz_some, e_cst, e_glb, e_flat, e_op1, e_op2, e_chn, chn_b, e_and, e_or, e_ife, lst_l, e_tup, e_lst, e_nil, e_cons, e_sub, e_key, e_slc, e_nop, e_rev, e_blt, e_call, it_l, it_t, e_comp, e_val, int_i, e_rng1, e_rng2, zip_l, zip_t, e_zip, e_pop, e_dsp, t_b, t_i, o_neg, o_not, o_add, o_sub, o_mul, o_fdv, o_mod, o_pow, o_lt, o_le, o_gt, o_ge, o_eq, o_ne, o_addL, o_inn, o_nin, o_isn, o_isnn, o_subL, o_subT, o_len, o_lenT, o_tupl, o_list, o_int, o_abs, o_max, o_min, o_gcd, o_sum, o_all, o_any, rb, eqvS, rf_nil, rf_none, rf_some, p_nil, p_none, p_some, a_nm, a_tup, a_nil, a_cons, s_skp, then_nx, then_rt, then_bk, then_ct, s_seq, s_asg, s_fre, s_par, ps_nil, ps_cons, s_exp, s_ret, s_rtn, s_ifs, s_lop, s_brk, s_cnt, s_nvr, s_app, s_set, s_setK, c_lst, ap_lst, si_lst, end_nx, end_rt, oo_nil, oo_0, oo_s, dk_c, dk_m, dk_d, dk_set, dk_can, dk_app, permL, List.filterMap_cons, List.filterMap_nil, List.getElem?_cons_zero, List.getElem?_cons_succ, List.cons_append, List.nil_append, List.append_nil, at0, at1, at2, isi_int, isi_bool, isi_tup, eqvI, Option.some.injEq, exists_eq_left', true_and, and_true, wipeR, Bool.not_true, Bool.not_false, forall_const, List.map_cons, List.map_nil, reduceCtorEq, false_implies, implies_true, true_implies, Bool.true_eq_false, Bool.false_eq_true, eq_self, o_slc, i2_nh]
        refine ⟨by omega, ⟨rfl, rfl⟩, ?_⟩
        have fin : ∀ s' : Bool, (s' = true ↔ (s = true ∧ (dot c y - r) % (z.2 : Int) = 0)) → (exS G fu s_law_is_of_parts_4b_2 [some (2, d2), some (0, .list (eP L)), some (0, stripe (per L) c r), some (0, .tuple (eI x)), some (0, .int (per L)), some (0, .tuple (eI c)), some (0, .int r), some (0, .int M), some (0, .tuple (eI y)), some (0, .bool s'), some (0, .int z.1), some (0, .int z.2), some (0, .bool (decide ((dot c y - r) % (z.2 : Int) = 0))), none, none]).sat fun r_1 =>
            (r_1.1 = Fl.nx ∨ r_1.1 = Fl.ct) ∧ ∃ (s : Bool) (s10 s11 s12 : Slot), r_1.2 = [some (2, d2), some (0, .list (eP L)), some (0, stripe (per L) c r), some (0, .tuple (eI x)), some (0, .int (per L)), some (0, .tuple (eI c)), some (0, .int r), some (0, .int M), some (0, .tuple (eI y)), some (0, .bool s), s10, s11, s12, none, none] ∧ (s = true ↔ ∀ z ∈ L.take (j + 1), (dot c y - r) % (z.2 : Int) = 0) := by
          intro s' hs'
          simp only [s_law_is_of_parts_4b_2, sOk, sat_bad, own_c0, own_cs, set_c0, set_cs, getS_c0, getS_cs, e_var, e_bor, e_iou, e_mov, e_frz, frz_some, e_cst, e_glb, e_flat, e_op1, e_op2, e_chn, chn_b, e_and, e_or, e_ife, lst_l, e_tup, e_lst, e_nil, e_cons, e_sub, e_key, e_slc, e_nop, e_rev, e_blt, e_call, it_l, it_t, e_comp, e_val, int_i, e_rng1, e_rng2, zip_l, zip_t, e_zip, e_pop, e_dsp, t_b, t_i, o_neg, o_not, o_add, o_sub, o_mul, o_fdv, o_mod, o_pow, o_lt, o_le, o_gt, o_ge, o_eq, o_ne, o_addL, o_inn, o_nin, o_isn, o_isnn, o_subL, o_subT, o_len, o_lenT, o_tupl, o_list, o_int, o_abs, o_max, o_min, o_gcd, o_sum, o_all, o_any, rb, eqvS, rf_nil, rf_none, rf_some, p_nil, p_none, p_some, a_nm, a_tup, a_nil, a_cons, s_skp, then_nx, then_rt, then_bk, then_ct, s_seq, s_asg, s_fre, s_par, ps_nil, ps_cons, s_exp, s_ret, s_rtn, s_ifs, s_lop, s_brk, s_cnt, s_nvr, s_app, s_set, s_setK, c_lst, ap_lst, si_lst, end_nx, end_rt, oo_nil, oo_0, oo_s, dk_c, dk_m, dk_d, dk_set, dk_can, dk_app, permL, List.filterMap_cons, List.filterMap_nil, List.getElem?_cons_zero, List.getElem?_cons_succ, List.cons_append, List.nil_append, List.append_nil, at0, at1, at2, isi_int, isi_bool, isi_tup, eqvI, Option.some.injEq, exists_eq_left', true_and, and_true, wipeR, Bool.not_true, Bool.not_false, forall_const, List.map_cons, List.map_nil, reduceCtorEq, false_implies, implies_true, true_implies, Bool.true_eq_false, Bool.false_eq_true, eq_self, o_slc, i2_nh]
          refine ⟨⟨rfl, by rw [List.length_map]; omega⟩, ?_⟩
          refine cmap (.int) (fun a => .int (a % (z.2 : Int))) c (fun a ha => ?_) ?_
          · simp only [compB_sat, sOk, sat_bad, own_c0, own_cs, set_c0, set_cs, getS_c0, getS_cs, e_var, e_bor, e_iou, e_mov, e_frz, frz_some, e_cst, e_glb, e_flat, e_op1, e_op2, e_chn, chn_b, e_and, e_or, e_ife, lst_l, e_tup, e_lst, e_nil, e_cons, e_sub, e_key, e_slc, e_nop, e_rev, e_blt, e_call, it_l, it_t, e_comp, e_val, int_i, e_rng1, e_rng2, zip_l, zip_t, e_zip, e_pop, e_dsp, t_b, t_i, o_neg, o_not, o_add, o_sub, o_mul, o_fdv, o_mod, o_pow, o_lt, o_le, o_gt, o_ge, o_eq, o_ne, o_addL, o_inn, o_nin, o_isn, o_isnn, o_subL, o_subT, o_len, o_lenT, o_tupl, o_list, o_int, o_abs, o_max, o_min, o_gcd, o_sum, o_all, o_any, rb, eqvS, rf_nil, rf_none, rf_some, p_nil, p_none, p_some, a_nm, a_tup, a_nil, a_cons, s_skp, then_nx, then_rt, then_bk, then_ct, s_seq, s_asg, s_fre, s_par, ps_nil, ps_cons, s_exp, s_ret, s_rtn, s_ifs, s_lop, s_brk, s_cnt, s_nvr, s_app, s_set, s_setK, c_lst, ap_lst, si_lst, end_nx, end_rt, oo_nil, oo_0, oo_s, dk_c, dk_m, dk_d, dk_set, dk_can, dk_app, permL, List.filterMap_cons, List.filterMap_nil, List.getElem?_cons_zero, List.getElem?_cons_succ, List.cons_append, List.nil_append, List.append_nil, at0, at1, at2, isi_int, isi_bool, isi_tup, eqvI, Option.some.injEq, exists_eq_left', true_and, and_true, wipeR, Bool.not_true, Bool.not_false, forall_const, List.map_cons, List.map_nil, reduceCtorEq, false_implies, implies_true, true_implies, Bool.true_eq_false, Bool.false_eq_true, eq_self, o_slc, i2_nh]
            omega
          · have e2 : c.map (fun a => PyData.int (a % (z.2 : Int))) = eI (c.map fun a => a % (z.2 : Int)) := by rw [eI, List.map_map]; rfl
            rw [e2]
            simp only [sOk, sat_bad, own_c0, own_cs, set_c0, set_cs, getS_c0, getS_cs, e_var, e_bor, e_iou, e_mov, e_frz, frz_some, e_cst, e_glb, e_flat, e_op1, e_op2, e_chn, chn_b, e_and, e_or, e_ife, lst_l, e_tup, e_lst, e_nil, e_cons, e_sub, e_key, e_slc, e_nop, e_rev, e_blt, e_call, it_l, it_t, e_comp, e_val, int_i, e_rng1, e_rng2, zip_l, zip_t, e_zip, e_pop, e_dsp, t_b, t_i, o_neg, o_not, o_add, o_sub, o_mul, o_fdv, o_mod, o_pow, o_lt, o_le, o_gt, o_ge, o_eq, o_ne, o_addL, o_inn, o_nin, o_isn, o_isnn, o_subL, o_subT, o_len, o_lenT, o_tupl, o_list, o_int, o_abs, o_max, o_min, o_gcd, o_sum, o_all, o_any, rb, eqvS, rf_nil, rf_none, rf_some, p_nil, p_none, p_some, a_nm, a_tup, a_nil, a_cons, s_skp, then_nx, then_rt, then_bk, then_ct, s_seq, s_asg, s_fre, s_par, ps_nil, ps_cons, s_exp, s_ret, s_rtn, s_ifs, s_lop, s_brk, s_cnt, s_nvr, s_app, s_set, s_setK, c_lst, ap_lst, si_lst, end_nx, end_rt, oo_nil, oo_0, oo_s, dk_c, dk_m, dk_d, dk_set, dk_can, dk_app, permL, List.filterMap_cons, List.filterMap_nil, List.getElem?_cons_zero, List.getElem?_cons_succ, List.cons_append, List.nil_append, List.append_nil, at0, at1, at2, isi_int, isi_bool, isi_tup, eqvI, Option.some.injEq, exists_eq_left', true_and, and_true, wipeR, Bool.not_true, Bool.not_false, forall_const, List.map_cons, List.map_nil, reduceCtorEq, false_implies, implies_true, true_implies, Bool.true_eq_false, Bool.false_eq_true, eq_self, o_slc, i2_nh]
            refine ⟨by omega, ?_⟩
            have vp := valC_part P v hzL
            have hz0 := Int.emod_nonneg r (b := (z.2 : Int)) (by omega)
            have hz1 := Int.emod_lt_of_pos r (b := (z.2 : Int)) (by omega)
            have call := hU [z] (c.map fun a => a % (z.2 : Int)) (r % (z.2 : Int)) y (decide ((dot c y - r) % (z.2 : Int) = 0)) (P.one_of hzL) vp hz0 (by rw [e1]; exact hz1) (by rw [List.length_map]; exact hly) hby (by
              rw [e1, decide_eq_true_eq]
              refine (mod_iff ?_).symm
              have h1 := dot_congr (m := (z.2 : Int)) (u := 1) (f := fun a => a % (z.2 : Int)) (c := c) (x := y) fun a _ => by
                rw [Int.one_mul]
                exact dvd_self_mod _ _
              have h2 := dvd_self_mod (z.2 : Int) r
              rw [Int.one_mul] at h1
              have e3 : dot (c.map fun a => a % (z.2 : Int)) y - r % (z.2 : Int) - (dot c y - r) = (dot (c.map fun a => a % (z.2 : Int)) y - dot c y) - (r % (z.2 : Int) - r) := by omega
              rw [e3]
              exact Int.dvd_sub h1 h2)
            unfold TrueOk at call
            rw [e1] at call
            refine sat_imp call ?_
            rintro _ rfl
            simp only [sOk, sat_bad, own_c0, own_cs, set_c0, set_cs, getS_c0, getS_cs, e_var, e_bor, e_iou, e_mov, e_frz, frz_some, e_cst, e_glb, e_flat, e_op1, e_op2, e_chn, chn_b, e_and, e_or, e_ife, lst_l, e_tup, e_lst, e_nil, e_cons, e_sub, e_key, e_slc, e_nop, e_rev, e_blt, e_call, it_l, it_t, e_comp, e_val, int_i, e_rng1, e_rng2, zip_l, zip_t, e_zip, e_pop, e_dsp, t_b, t_i, o_neg, o_not, o_add, o_sub, o_mul, o_fdv, o_mod, o_pow, o_lt, o_le, o_gt, o_ge, o_eq, o_ne, o_addL, o_inn, o_nin, o_isn, o_isnn, o_subL, o_subT, o_len, o_lenT, o_tupl, o_list, o_int, o_abs, o_max, o_min, o_gcd, o_sum, o_all, o_any, rb, eqvS, rf_nil, rf_none, rf_some, p_nil, p_none, p_some, a_nm, a_tup, a_nil, a_cons, s_skp, then_nx, then_rt, then_bk, then_ct, s_seq, s_asg, s_fre, s_par, ps_nil, ps_cons, s_exp, s_ret, s_rtn, s_ifs, s_lop, s_brk, s_cnt, s_nvr, s_app, s_set, s_setK, c_lst, ap_lst, si_lst, end_nx, end_rt, oo_nil, oo_0, oo_s, dk_c, dk_m, dk_d, dk_set, dk_can, dk_app, permL, List.filterMap_cons, List.filterMap_nil, List.getElem?_cons_zero, List.getElem?_cons_succ, List.cons_append, List.nil_append, List.append_nil, at0, at1, at2, isi_int, isi_bool, isi_tup, eqvI, Option.some.injEq, exists_eq_left', true_and, and_true, wipeR, Bool.not_true, Bool.not_false, forall_const, List.map_cons, List.map_nil, reduceCtorEq, false_implies, implies_true, true_implies, Bool.true_eq_false, Bool.false_eq_true, eq_self, o_slc, i2_nh]
            refine ⟨.inl trivial, s', _, _, _, rfl, ?_⟩
            rw [hs', hs, take_snoc hz]
            constructor
            · rintro ⟨h1, h2⟩ w hw
              rcases List.mem_append.mp hw with hw | hw
              · exact h1 w hw
              · rw [List.mem_singleton.mp hw]; exact h2
            · intro h
              exact ⟨fun w hw => h w (List.mem_append_left _ hw), h z (List.mem_append_right _ (List.mem_singleton.mpr rfl))⟩
        simp only [s_law_is_of_parts_4b_1, sOk, sat_bad, own_c0, own_cs, set_c0, set_cs, getS_c0, getS_cs, e_var, e_bor, e_iou, e_mov, e_frz, frz_some, e_cst, e_glb, e_flat, e_op1, e_op2, e_chn, chn_b, e_and, e_or, e_ife, lst_l, e_tup, e_lst, e_nil, e_cons, e_sub, e_key, e_slc, e_nop, e_rev, e_blt, e_call, it_l, it_t, e_comp, e_val, int_i, e_rng1, e_rng2, zip_l, zip_t, e_zip, e_pop, e_dsp, t_b, t_i, o_neg, o_not, o_add, o_sub, o_mul, o_fdv, o_mod, o_pow, o_lt, o_le, o_gt, o_ge, o_eq, o_ne, o_addL, o_inn, o_nin, o_isn, o_isnn, o_subL, o_subT, o_len, o_lenT, o_tupl, o_list, o_int, o_abs, o_max, o_min, o_gcd, o_sum, o_all, o_any, rb, eqvS, rf_nil, rf_none, rf_some, p_nil, p_none, p_some, a_nm, a_tup, a_nil, a_cons, s_skp, then_nx, then_rt, then_bk, then_ct, s_seq, s_asg, s_fre, s_par, ps_nil, ps_cons, s_exp, s_ret, s_rtn, s_ifs, s_lop, s_brk, s_cnt, s_nvr, s_app, s_set, s_setK, c_lst, ap_lst, si_lst, end_nx, end_rt, oo_nil, oo_0, oo_s, dk_c, dk_m, dk_d, dk_set, dk_can, dk_app, permL, List.filterMap_cons, List.filterMap_nil, List.getElem?_cons_zero, List.getElem?_cons_succ, List.cons_append, List.nil_append, List.append_nil, at0, at1, at2, isi_int, isi_bool, isi_tup, eqvI, Option.some.injEq, exists_eq_left', true_and, and_true, wipeR, Bool.not_true, Bool.not_false, forall_const, List.map_cons, List.map_nil, reduceCtorEq, false_implies, implies_true, true_implies, Bool.true_eq_false, Bool.false_eq_true, eq_self, o_slc, i2_nh]
        refine ⟨fun h => ?_, fun h => ?_⟩
        · exact fin _ ⟨fun q => ⟨h, of_decide_eq_true q⟩, fun q => decide_eq_true q.2⟩
        · refine fin s ⟨fun q => absurd (q.symm.trans h) (by decide), fun q => q.1⟩
      · obtain ⟨s, s10, s11, s12, rfl, hs⟩ := hJ
        rw [List.length_map, Nat.zero_add, List.take_length] at hs
        simp only [then_nx, s_law_is_of_parts_5, sOk, sat_bad, own_c0, own_cs, set_c0, set_cs, getS_c0, getS_cs, e_var, e_bor, e_iou, e_mov, e_frz, frz_some, e_cst, e_glb, e_flat, e_op1, e_op2, e_chn, chn_b, e_and, e_or, e_ife, lst_l, e_tup, e_lst, e_nil, e_cons, e_sub, e_key, e_slc, e_nop, e_rev, e_blt, e_call, it_l, it_t, e_comp, e_val, int_i, e_rng1, e_rng2, zip_l, zip_t, e_zip, e_pop, e_dsp, t_b, t_i, o_neg, o_not, o_add, o_sub, o_mul, o_fdv, o_mod, o_pow, o_lt, o_le, o_gt, o_ge, o_eq, o_ne, o_addL, o_inn, o_nin, o_isn, o_isnn, o_subL, o_subT, o_len, o_lenT, o_tupl, o_list, o_int, o_abs, o_max, o_min, o_gcd, o_sum, o_all, o_any, rb, eqvS, rf_nil, rf_none, rf_some, p_nil, p_none, p_some, a_nm, a_tup, a_nil, a_cons, s_skp, then_nx, then_rt, then_bk, then_ct, s_seq, s_asg, s_fre, s_par, ps_nil, ps_cons, s_exp, s_ret, s_rtn, s_ifs, s_lop, s_brk, s_cnt, s_nvr, s_app, s_set, s_setK, c_lst, ap_lst, si_lst, end_nx, end_rt, oo_nil, oo_0, oo_s, dk_c, dk_m, dk_d, dk_set, dk_can, dk_app, permL, List.filterMap_cons, List.filterMap_nil, List.getElem?_cons_zero, List.getElem?_cons_succ, List.cons_append, List.nil_append, List.append_nil, at0, at1, at2, isi_int, isi_bool, isi_tup, eqvI, Option.some.injEq, exists_eq_left', true_and, and_true, wipeR, Bool.not_true, Bool.not_false, forall_const, List.map_cons, List.map_nil, reduceCtorEq, false_implies, implies_true, true_implies, Bool.true_eq_false, Bool.false_eq_true, eq_self, o_slc, i2_nh]
        refine sat_imp (hU L c r y s P v r0 r1 hly hby (hs.trans P.crtI.symm)) ?_
        rintro _ rfl
        simp only [sOk, sat_bad, own_c0, own_cs, set_c0, set_cs, getS_c0, getS_cs, e_var, e_bor, e_iou, e_mov, e_frz, frz_some, e_cst, e_glb, e_flat, e_op1, e_op2, e_chn, chn_b, e_and, e_or, e_ife, lst_l, e_tup, e_lst, e_nil, e_cons, e_sub, e_key, e_slc, e_nop, e_rev, e_blt, e_call, it_l, it_t, e_comp, e_val, int_i, e_rng1, e_rng2, zip_l, zip_t, e_zip, e_pop, e_dsp, t_b, t_i, o_neg, o_not, o_add, o_sub, o_mul, o_fdv, o_mod, o_pow, o_lt, o_le, o_gt, o_ge, o_eq, o_ne, o_addL, o_inn, o_nin, o_isn, o_isnn, o_subL, o_subT, o_len, o_lenT, o_tupl, o_list, o_int, o_abs, o_max, o_min, o_gcd, o_sum, o_all, o_any, rb, eqvS, rf_nil, rf_none, rf_some, p_nil, p_none, p_some, a_nm, a_tup, a_nil, a_cons, s_skp, then_nx, then_rt, then_bk, then_ct, s_seq, s_asg, s_fre, s_par, ps_nil, ps_cons, s_exp, s_ret, s_rtn, s_ifs, s_lop, s_brk, s_cnt, s_nvr, s_app, s_set, s_setK, c_lst, ap_lst, si_lst, end_nx, end_rt, oo_nil, oo_0, oo_s, dk_c, dk_m, dk_d, dk_set, dk_can, dk_app, permL, List.filterMap_cons, List.filterMap_nil, List.getElem?_cons_zero, List.getElem?_cons_succ, List.cons_append, List.nil_append, List.append_nil, at0, at1, at2, isi_int, isi_bool, isi_tup, eqvI, Option.some.injEq, exists_eq_left', true_and, and_true, wipeR, Bool.not_true, Bool.not_false, forall_const, List.map_cons, List.map_nil, reduceCtorEq, false_implies, implies_true, true_implies, Bool.true_eq_false, Bool.false_eq_true, eq_self, o_slc, i2_nh]
        exact ⟨d2, rfl, hd2.mono (by omega)⟩
end
end K03

set_option Elab.async false
set_option linter.all false
set_option maxRecDepth 100000
set_option maxHeartbeats 2000000
set_option exponentiation.threshold 10000
namespace K03
open PySem Mini Mini.W
section
variable {G : Defs} {fu : Nat}
/-- the law's def says True -/
def LawOk (g : List PyData → Out (PyData × List PyData)) : Prop := ∀ ns : List Int, ns.length ≤ 63 → (g [.list (eI ns)]).sat fun r => r.1 = .bool true
theorem law_ok (hK : DeckOk (G i_law_deck)) (hD : DrawOk (G i_law_draw)) (hG : GreatOk (G i_law_great)) (hS : SignedOk (G i_law_signed)) (hW : PowersOk (G i_law_powers)) (hPr : ProductOk (G i_law_product)) (hN : NumbersOk (G i_law_numbers)) (hUn : UnitOk (G i_law_unit))
    (hA : ProdAtOk (G i_law_along)) (hM : MovedOk (G i_law_moved)) (hU : DueOk (G i_law_is_due)) (hSt : StepOk (G i_law_step)) (hCo : ComesOk (G i_law_comes_again)) (hPa : PartsOk (G i_law_is_of_parts)) : LawOk (runDf G fu d_law) := by
  intro ns hl
  have hL : LIM = 1000000 := rfl
  have hT : TOP = 10 ^ 60 := rfl
  have hX : XB = 10 ^ 300 := rfl
  have hDL : DL = 1000000000 := rfl
  have h40 : (10 : Int) ^ Int.toNat 40 = 10 ^ 40 := rfl
  have h50 : (10 : Int) ^ Int.toNat 50 = 10 ^ 50 := rfl
  have h15 : (10 : Int) ^ Int.toNat 15 = 10 ^ 15 := rfl
  rw [s_run rfl]
  show (exS G fu d_law.body [some (0, .list (eI ns)), none, none, none, none, none, none, none, none, none, none, none, none, none, none, none, none, none, none, none, none, none]).sat (endB [0] _)
  simp only [d_law, s_law_0, sOk, sat_bad, own_c0, own_cs, set_c0, set_cs, getS_c0, getS_cs, e_var, e_bor, e_iou, e_mov, e_frz, frz_some, e_cst, e_glb, e_flat, e_op1, e_op2, e_chn, chn_b, e_and, e_or, e_ife, lst_l, e_tup, e_lst, e_nil, e_cons, e_sub, e_key, e_slc, e_nop, e_rev, e_blt, e_call, it_l, it_t, e_comp, e_val, int_i, e_rng1, e_rng2, zip_l, zip_t, e_zip, e_pop, e_dsp, t_b, t_i, o_neg, o_not, o_add, o_sub, o_mul, o_fdv, o_mod, o_pow, o_lt, o_le, o_gt, o_ge, o_eq, o_ne, o_addL, o_inn, o_nin, o_isn, o_isnn, o_subL, o_subT, o_len, o_lenT, o_tupl, o_list, o_int, o_abs, o_max, o_min, o_gcd, o_sum, o_all, o_any, rb, eqvS, rf_nil, rf_none, rf_some, p_nil, p_none, p_some, a_nm, a_tup, a_nil, a_cons, s_skp, then_nx, then_rt, then_bk, then_ct, s_seq, s_asg, s_fre, s_par, ps_nil, ps_cons, s_exp, s_ret, s_rtn, s_ifs, s_lop, s_brk, s_cnt, s_nvr, s_app, s_set, s_setK, c_lst, ap_lst, si_lst, end_nx, end_rt, oo_nil, oo_0, oo_s, dk_c, dk_m, dk_d, dk_set, dk_can, dk_app, permL, List.filterMap_cons, List.filterMap_nil, List.getElem?_cons_zero, List.getElem?_cons_succ, List.cons_append, List.nil_append, List.append_nil, at0, at1, at2, isi_int, isi_bool, isi_tup, eqvI, Option.some.injEq, exists_eq_left', true_and, and_true, wipeR, Bool.not_true, Bool.not_false, forall_const, List.map_cons, List.map_nil, reduceCtorEq, false_implies, implies_true, true_implies, Bool.true_eq_false, Bool.false_eq_true, eq_self, o_slc, i2_nh]
  refine sat_imp (hK ns hl) ?_
  rintro _ ⟨d0, rfl, hd0⟩
  simp only [sOk, sat_bad, own_c0, own_cs, set_c0, set_cs, getS_c0, getS_cs, e_var, e_bor, e_iou, e_mov, e_frz, frz_some, e_cst, e_glb, e_flat, e_op1, e_op2, e_chn, chn_b, e_and, e_or, e_ife, lst_l, e_tup, e_lst, e_nil, e_cons, e_sub, e_key, e_slc, e_nop, e_rev, e_blt, e_call, it_l, it_t, e_comp, e_val, int_i, e_rng1, e_rng2, zip_l, zip_t, e_zip, e_pop, e_dsp, t_b, t_i, o_neg, o_not, o_add, o_sub, o_mul, o_fdv, o_mod, o_pow, o_lt, o_le, o_gt, o_ge, o_eq, o_ne, o_addL, o_inn, o_nin, o_isn, o_isnn, o_subL, o_subT, o_len, o_lenT, o_tupl, o_list, o_int, o_abs, o_max, o_min, o_gcd, o_sum, o_all, o_any, rb, eqvS, rf_nil, rf_none, rf_some, p_nil, p_none, p_some, a_nm, a_tup, a_nil, a_cons, s_skp, then_nx, then_rt, then_bk, then_ct, s_seq, s_asg, s_fre, s_par, ps_nil, ps_cons, s_exp, s_ret, s_rtn, s_ifs, s_lop, s_brk, s_cnt, s_nvr, s_app, s_set, s_setK, c_lst, ap_lst, si_lst, end_nx, end_rt, oo_nil, oo_0, oo_s, dk_c, dk_m, dk_d, dk_set, dk_can, dk_app, permL, List.filterMap_cons, List.filterMap_nil, List.getElem?_cons_zero, List.getElem?_cons_succ, List.cons_append, List.nil_append, List.append_nil, at0, at1, at2, isi_int, isi_bool, isi_tup, eqvI, Option.some.injEq, exists_eq_left', true_and, and_true, wipeR, Bool.not_true, Bool.not_false, forall_const, List.map_cons, List.map_nil, reduceCtorEq, false_implies, implies_true, true_implies, Bool.true_eq_false, Bool.false_eq_true, eq_self, o_slc, i2_nh]
  simp only [s_law_1, sOk, sat_bad, own_c0, own_cs, set_c0, set_cs, getS_c0, getS_cs, e_var, e_bor, e_iou, e_mov, e_frz, frz_some, e_cst, e_glb, e_flat, e_op1, e_op2, e_chn, chn_b, e_and, e_or, e_ife, lst_l, e_tup, e_lst, e_nil, e_cons, e_sub, e_key, e_slc, e_nop, e_rev, e_blt, e_call, it_l, it_t, e_comp, e_val, int_i, e_rng1, e_rng2, zip_l, zip_t, e_zip, e_pop, e_dsp, t_b, t_i, o_neg, o_not, o_add, o_sub, o_mul, o_fdv, o_mod, o_pow, o_lt, o_le, o_gt, o_ge, o_eq, o_ne, o_addL, o_inn, o_nin, o_isn, o_isnn, o_subL, o_subT, o_len, o_lenT, o_tupl, o_list, o_int, o_abs, o_max, o_min, o_gcd, o_sum, o_all, o_any, rb, eqvS, rf_nil, rf_none, rf_some, p_nil, p_none, p_some, a_nm, a_tup, a_nil, a_cons, s_skp, then_nx, then_rt, then_bk, then_ct, s_seq, s_asg, s_fre, s_par, ps_nil, ps_cons, s_exp, s_ret, s_rtn, s_ifs, s_lop, s_brk, s_cnt, s_nvr, s_app, s_set, s_setK, c_lst, ap_lst, si_lst, end_nx, end_rt, oo_nil, oo_0, oo_s, dk_c, dk_m, dk_d, dk_set, dk_can, dk_app, permL, List.filterMap_cons, List.filterMap_nil, List.getElem?_cons_zero, List.getElem?_cons_succ, List.cons_append, List.nil_append, List.append_nil, at0, at1, at2, isi_int, isi_bool, isi_tup, eqvI, Option.some.injEq, exists_eq_left', true_and, and_true, wipeR, Bool.not_true, Bool.not_false, forall_const, List.map_cons, List.map_nil, reduceCtorEq, false_implies, implies_true, true_implies, Bool.true_eq_false, Bool.false_eq_true, eq_self, o_slc, i2_nh, h40]
  refine ⟨by decide, ?_⟩
  refine sat_imp (hW 0 d0 hd0 (by omega)) ?_
  rintro _ ⟨L, d1, rfl, P, hd1⟩
  simp only [sOk, sat_bad, own_c0, own_cs, set_c0, set_cs, getS_c0, getS_cs, e_var, e_bor, e_iou, e_mov, e_frz, frz_some, e_cst, e_glb, e_flat, e_op1, e_op2, e_chn, chn_b, e_and, e_or, e_ife, lst_l, e_tup, e_lst, e_nil, e_cons, e_sub, e_key, e_slc, e_nop, e_rev, e_blt, e_call, it_l, it_t, e_comp, e_val, int_i, e_rng1, e_rng2, zip_l, zip_t, e_zip, e_pop, e_dsp, t_b, t_i, o_neg, o_not, o_add, o_sub, o_mul, o_fdv, o_mod, o_pow, o_lt, o_le, o_gt, o_ge, o_eq, o_ne, o_addL, o_inn, o_nin, o_isn, o_isnn, o_subL, o_subT, o_len, o_lenT, o_tupl, o_list, o_int, o_abs, o_max, o_min, o_gcd, o_sum, o_all, o_any, rb, eqvS, rf_nil, rf_none, rf_some, p_nil, p_none, p_some, a_nm, a_tup, a_nil, a_cons, s_skp, then_nx, then_rt, then_bk, then_ct, s_seq, s_asg, s_fre, s_par, ps_nil, ps_cons, s_exp, s_ret, s_rtn, s_ifs, s_lop, s_brk, s_cnt, s_nvr, s_app, s_set, s_setK, c_lst, ap_lst, si_lst, end_nx, end_rt, oo_nil, oo_0, oo_s, dk_c, dk_m, dk_d, dk_set, dk_can, dk_app, permL, List.filterMap_cons, List.filterMap_nil, List.getElem?_cons_zero, List.getElem?_cons_succ, List.cons_append, List.nil_append, List.append_nil, at0, at1, at2, isi_int, isi_bool, isi_tup, eqvI, Option.some.injEq, exists_eq_left', true_and, and_true, wipeR, Bool.not_true, Bool.not_false, forall_const, List.map_cons, List.map_nil, reduceCtorEq, false_implies, implies_true, true_implies, Bool.true_eq_false, Bool.false_eq_true, eq_self, o_slc, i2_nh]
  refine sat_imp (hD _ d1 3 hd1 (by omega) (by omega) (by omega)) ?_
  rintro _ ⟨i0, d2, rfl, i00, i01, hd2⟩
  have hn : ∃ n : Nat, 1 + i0 = (n : Int) ∧ 1 ≤ n ∧ n ≤ 3 := ⟨(1 + i0).toNat, by omega, by omega, by omega⟩
  obtain ⟨n, en, n1, n3⟩ := hn
  simp only [sOk, sat_bad, own_c0, own_cs, set_c0, set_cs, getS_c0, getS_cs, e_var, e_bor, e_iou, e_mov, e_frz, frz_some, e_cst, e_glb, e_flat, e_op1, e_op2, e_chn, chn_b, e_and, e_or, e_ife, lst_l, e_tup, e_lst, e_nil, e_cons, e_sub, e_key, e_slc, e_nop, e_rev, e_blt, e_call, it_l, it_t, e_comp, e_val, int_i, e_rng1, e_rng2, zip_l, zip_t, e_zip, e_pop, e_dsp, t_b, t_i, o_neg, o_not, o_add, o_sub, o_mul, o_fdv, o_mod, o_pow, o_lt, o_le, o_gt, o_ge, o_eq, o_ne, o_addL, o_inn, o_nin, o_isn, o_isnn, o_subL, o_subT, o_len, o_lenT, o_tupl, o_list, o_int, o_abs, o_max, o_min, o_gcd, o_sum, o_all, o_any, rb, eqvS, rf_nil, rf_none, rf_some, p_nil, p_none, p_some, a_nm, a_tup, a_nil, a_cons, s_skp, then_nx, then_rt, then_bk, then_ct, s_seq, s_asg, s_fre, s_par, ps_nil, ps_cons, s_exp, s_ret, s_rtn, s_ifs, s_lop, s_brk, s_cnt, s_nvr, s_app, s_set, s_setK, c_lst, ap_lst, si_lst, end_nx, end_rt, oo_nil, oo_0, oo_s, dk_c, dk_m, dk_d, dk_set, dk_can, dk_app, permL, List.filterMap_cons, List.filterMap_nil, List.getElem?_cons_zero, List.getElem?_cons_succ, List.cons_append, List.nil_append, List.append_nil, at0, at1, at2, isi_int, isi_bool, isi_tup, eqvI, Option.some.injEq, exists_eq_left', true_and, and_true, wipeR, Bool.not_true, Bool.not_false, forall_const, List.map_cons, List.map_nil, reduceCtorEq, false_implies, implies_true, true_implies, Bool.true_eq_false, Bool.false_eq_true, eq_self, o_slc, i2_nh, en]
  have htop : per L < 10 ^ 40 := P.top
  have hpos := P.pos
  have hfew := P.few
  simp only [s_law_2, sOk, sat_bad, own_c0, own_cs, set_c0, set_cs, getS_c0, getS_cs, e_var, e_bor, e_iou, e_mov, e_frz, frz_some, e_cst, e_glb, e_flat, e_op1, e_op2, e_chn, chn_b, e_and, e_or, e_ife, lst_l, e_tup, e_lst, e_nil, e_cons, e_sub, e_key, e_slc, e_nop, e_rev, e_blt, e_call, it_l, it_t, e_comp, e_val, int_i, e_rng1, e_rng2, zip_l, zip_t, e_zip, e_pop, e_dsp, t_b, t_i, o_neg, o_not, o_add, o_sub, o_mul, o_fdv, o_mod, o_pow, o_lt, o_le, o_gt, o_ge, o_eq, o_ne, o_addL, o_inn, o_nin, o_isn, o_isnn, o_subL, o_subT, o_len, o_lenT, o_tupl, o_list, o_int, o_abs, o_max, o_min, o_gcd, o_sum, o_all, o_any, rb, eqvS, rf_nil, rf_none, rf_some, p_nil, p_none, p_some, a_nm, a_tup, a_nil, a_cons, s_skp, then_nx, then_rt, then_bk, then_ct, s_seq, s_asg, s_fre, s_par, ps_nil, ps_cons, s_exp, s_ret, s_rtn, s_ifs, s_lop, s_brk, s_cnt, s_nvr, s_app, s_set, s_setK, c_lst, ap_lst, si_lst, end_nx, end_rt, oo_nil, oo_0, oo_s, dk_c, dk_m, dk_d, dk_set, dk_can, dk_app, permL, List.filterMap_cons, List.filterMap_nil, List.getElem?_cons_zero, List.getElem?_cons_succ, List.cons_append, List.nil_append, List.append_nil, at0, at1, at2, isi_int, isi_bool, isi_tup, eqvI, Option.some.injEq, exists_eq_left', true_and, and_true, wipeR, Bool.not_true, Bool.not_false, forall_const, List.map_cons, List.map_nil, reduceCtorEq, false_implies, implies_true, true_implies, Bool.true_eq_false, Bool.false_eq_true, eq_self, o_slc, i2_nh]
  refine ⟨⟨rfl, by rw [List.length_map]; omega⟩, ?_⟩
  refine cmap (fun x : Nat × Nat => .tuple [.int (x.1 : Int), .int (x.2 : Int)]) (fun x => .int (x.2 : Int)) L (fun a _ => ?_) ?_
  · simp only [compB_sat, sOk, sat_bad, own_c0, own_cs, set_c0, set_cs, getS_c0, getS_cs, e_var, e_bor, e_iou, e_mov, e_frz, frz_some, e_cst, e_glb, e_flat, e_op1, e_op2, e_chn, chn_b, e_and, e_or, e_ife, lst_l, e_tup, e_lst, e_nil, e_cons, e_sub, e_key, e_slc, e_nop, e_rev, e_blt, e_call, it_l, it_t, e_comp, e_val, int_i, e_rng1, e_rng2, zip_l, zip_t, e_zip, e_pop, e_dsp, t_b, t_i, o_neg, o_not, o_add, o_sub, o_mul, o_fdv, o_mod, o_pow, o_lt, o_le, o_gt, o_ge, o_eq, o_ne, o_addL, o_inn, o_nin, o_isn, o_isnn, o_subL, o_subT, o_len, o_lenT, o_tupl, o_list, o_int, o_abs, o_max, o_min, o_gcd, o_sum, o_all, o_any, rb, eqvS, rf_nil, rf_none, rf_some, p_nil, p_none, p_some, a_nm, a_tup, a_nil, a_cons, s_skp, then_nx, then_rt, then_bk, then_ct, s_seq, s_asg, s_fre, s_par, ps_nil, ps_cons, s_exp, s_ret, s_rtn, s_ifs, s_lop, s_brk, s_cnt, s_nvr, s_app, s_set, s_setK, c_lst, ap_lst, si_lst, end_nx, end_rt, oo_nil, oo_0, oo_s, dk_c, dk_m, dk_d, dk_set, dk_can, dk_app, permL, List.filterMap_cons, List.filterMap_nil, List.getElem?_cons_zero, List.getElem?_cons_succ, List.cons_append, List.nil_append, List.append_nil, at0, at1, at2, isi_int, isi_bool, isi_tup, eqvI, Option.some.injEq, exists_eq_left', true_and, and_true, wipeR, Bool.not_true, Bool.not_false, forall_const, List.map_cons, List.map_nil, reduceCtorEq, false_implies, implies_true, true_implies, Bool.true_eq_false, Bool.false_eq_true, eq_self, o_slc, i2_nh]
  have e1 : L.map (fun x => PyData.int (x.2 : Int)) = eN (L.map Prod.snd) := by rw [eN, List.map_map]; rfl
  rw [e1]
  simp only [sOk, sat_bad, own_c0, own_cs, set_c0, set_cs, getS_c0, getS_cs, e_var, e_bor, e_iou, e_mov, e_frz, frz_some, e_cst, e_glb, e_flat, e_op1, e_op2, e_chn, chn_b, e_and, e_or, e_ife, lst_l, e_tup, e_lst, e_nil, e_cons, e_sub, e_key, e_slc, e_nop, e_rev, e_blt, e_call, it_l, it_t, e_comp, e_val, int_i, e_rng1, e_rng2, zip_l, zip_t, e_zip, e_pop, e_dsp, t_b, t_i, o_neg, o_not, o_add, o_sub, o_mul, o_fdv, o_mod, o_pow, o_lt, o_le, o_gt, o_ge, o_eq, o_ne, o_addL, o_inn, o_nin, o_isn, o_isnn, o_subL, o_subT, o_len, o_lenT, o_tupl, o_list, o_int, o_abs, o_max, o_min, o_gcd, o_sum, o_all, o_any, rb, eqvS, rf_nil, rf_none, rf_some, p_nil, p_none, p_some, a_nm, a_tup, a_nil, a_cons, s_skp, then_nx, then_rt, then_bk, then_ct, s_seq, s_asg, s_fre, s_par, ps_nil, ps_cons, s_exp, s_ret, s_rtn, s_ifs, s_lop, s_brk, s_cnt, s_nvr, s_app, s_set, s_setK, c_lst, ap_lst, si_lst, end_nx, end_rt, oo_nil, oo_0, oo_s, dk_c, dk_m, dk_d, dk_set, dk_can, dk_app, permL, List.filterMap_cons, List.filterMap_nil, List.getElem?_cons_zero, List.getElem?_cons_succ, List.cons_append, List.nil_append, List.append_nil, at0, at1, at2, isi_int, isi_bool, isi_tup, eqvI, Option.some.injEq, exists_eq_left', true_and, and_true, wipeR, Bool.not_true, Bool.not_false, forall_const, List.map_cons, List.map_nil, reduceCtorEq, false_implies, implies_true, true_implies, Bool.true_eq_false, Bool.false_eq_true, eq_self, o_slc, i2_nh]
  refine sat_imp (prodOkN hPr (fun q hq => by
    obtain ⟨x, hx, rfl⟩ := List.mem_map.mp hq
    exact P.q_pos hx) htop) ?_
  rintro _ rfl
  simp only [sOk, sat_bad, own_c0, own_cs, set_c0, set_cs, getS_c0, getS_cs, e_var, e_bor, e_iou, e_mov, e_frz, frz_some, e_cst, e_glb, e_flat, e_op1, e_op2, e_chn, chn_b, e_and, e_or, e_ife, lst_l, e_tup, e_lst, e_nil, e_cons, e_sub, e_key, e_slc, e_nop, e_rev, e_blt, e_call, it_l, it_t, e_comp, e_val, int_i, e_rng1, e_rng2, zip_l, zip_t, e_zip, e_pop, e_dsp, t_b, t_i, o_neg, o_not, o_add, o_sub, o_mul, o_fdv, o_mod, o_pow, o_lt, o_le, o_gt, o_ge, o_eq, o_ne, o_addL, o_inn, o_nin, o_isn, o_isnn, o_subL, o_subT, o_len, o_lenT, o_tupl, o_list, o_int, o_abs, o_max, o_min, o_gcd, o_sum, o_all, o_any, rb, eqvS, rf_nil, rf_none, rf_some, p_nil, p_none, p_some, a_nm, a_tup, a_nil, a_cons, s_skp, then_nx, then_rt, then_bk, then_ct, s_seq, s_asg, s_fre, s_par, ps_nil, ps_cons, s_exp, s_ret, s_rtn, s_ifs, s_lop, s_brk, s_cnt, s_nvr, s_app, s_set, s_setK, c_lst, ap_lst, si_lst, end_nx, end_rt, oo_nil, oo_0, oo_s, dk_c, dk_m, dk_d, dk_set, dk_can, dk_app, permL, List.filterMap_cons, List.filterMap_nil, List.getElem?_cons_zero, List.getElem?_cons_succ, List.cons_append, List.nil_append, List.append_nil, at0, at1, at2, isi_int, isi_bool, isi_tup, eqvI, Option.some.injEq, exists_eq_left', true_and, and_true, wipeR, Bool.not_true, Bool.not_false, forall_const, List.map_cons, List.map_nil, reduceCtorEq, false_implies, implies_true, true_implies, Bool.true_eq_false, Bool.false_eq_true, eq_self, o_slc, i2_nh]
  simp only [s_law_3, sOk, sat_bad, own_c0, own_cs, set_c0, set_cs, getS_c0, getS_cs, e_var, e_bor, e_iou, e_mov, e_frz, frz_some, e_cst, e_glb, e_flat, e_op1, e_op2, e_chn, chn_b, e_and, e_or, e_ife, lst_l, e_tup, e_lst, e_nil, e_cons, e_sub, e_key, e_slc, e_nop, e_rev, e_blt, e_call, it_l, it_t, e_comp, e_val, int_i, e_rng1, e_rng2, zip_l, zip_t, e_zip, e_pop, e_dsp, t_b, t_i, o_neg, o_not, o_add, o_sub, o_mul, o_fdv, o_mod, o_pow, o_lt, o_le, o_gt, o_ge, o_eq, o_ne, o_addL, o_inn, o_nin, o_isn, o_isnn, o_subL, o_subT, o_len, o_lenT, o_tupl, o_list, o_int, o_abs, o_max, o_min, o_gcd, o_sum, o_all, o_any, rb, eqvS, rf_nil, rf_none, rf_some, p_nil, p_none, p_some, a_nm, a_tup, a_nil, a_cons, s_skp, then_nx, then_rt, then_bk, then_ct, s_seq, s_asg, s_fre, s_par, ps_nil, ps_cons, s_exp, s_ret, s_rtn, s_ifs, s_lop, s_brk, s_cnt, s_nvr, s_app, s_set, s_setK, c_lst, ap_lst, si_lst, end_nx, end_rt, oo_nil, oo_0, oo_s, dk_c, dk_m, dk_d, dk_set, dk_can, dk_app, permL, List.filterMap_cons, List.filterMap_nil, List.getElem?_cons_zero, List.getElem?_cons_succ, List.cons_append, List.nil_append, List.append_nil, at0, at1, at2, isi_int, isi_bool, isi_tup, eqvI, Option.some.injEq, exists_eq_left', true_and, and_true, wipeR, Bool.not_true, Bool.not_false, forall_const, List.map_cons, List.map_nil, reduceCtorEq, false_implies, implies_true, true_implies, Bool.true_eq_false, Bool.false_eq_true, eq_self, o_slc, i2_nh, h50]
  refine sat_imp (hN _ d2 L n P n1 n3 hd2 (by omega)) ?_
  rintro _ ⟨c, d3, rfl, v, hlc, hd3⟩
  simp only [sOk, sat_bad, own_c0, own_cs, set_c0, set_cs, getS_c0, getS_cs, e_var, e_bor, e_iou, e_mov, e_frz, frz_some, e_cst, e_glb, e_flat, e_op1, e_op2, e_chn, chn_b, e_and, e_or, e_ife, lst_l, e_tup, e_lst, e_nil, e_cons, e_sub, e_key, e_slc, e_nop, e_rev, e_blt, e_call, it_l, it_t, e_comp, e_val, int_i, e_rng1, e_rng2, zip_l, zip_t, e_zip, e_pop, e_dsp, t_b, t_i, o_neg, o_not, o_add, o_sub, o_mul, o_fdv, o_mod, o_pow, o_lt, o_le, o_gt, o_ge, o_eq, o_ne, o_addL, o_inn, o_nin, o_isn, o_isnn, o_subL, o_subT, o_len, o_lenT, o_tupl, o_list, o_int, o_abs, o_max, o_min, o_gcd, o_sum, o_all, o_any, rb, eqvS, rf_nil, rf_none, rf_some, p_nil, p_none, p_some, a_nm, a_tup, a_nil, a_cons, s_skp, then_nx, then_rt, then_bk, then_ct, s_seq, s_asg, s_fre, s_par, ps_nil, ps_cons, s_exp, s_ret, s_rtn, s_ifs, s_lop, s_brk, s_cnt, s_nvr, s_app, s_set, s_setK, c_lst, ap_lst, si_lst, end_nx, end_rt, oo_nil, oo_0, oo_s, dk_c, dk_m, dk_d, dk_set, dk_can, dk_app, permL, List.filterMap_cons, List.filterMap_nil, List.getElem?_cons_zero, List.getElem?_cons_succ, List.cons_append, List.nil_append, List.append_nil, at0, at1, at2, isi_int, isi_bool, isi_tup, eqvI, Option.some.injEq, exists_eq_left', true_and, and_true, wipeR, Bool.not_true, Bool.not_false, forall_const, List.map_cons, List.map_nil, reduceCtorEq, false_implies, implies_true, true_implies, Bool.true_eq_false, Bool.false_eq_true, eq_self, o_slc, i2_nh]
  refine ⟨by unfold rngOk; exact decide_eq_true (by omega), ⟨rfl, by rw [range_len]; omega⟩, ?_⟩
  refine comp_inv (I := fun i acc ρ => ∃ (x : List Int) (d' : PyData), acc = eI x ∧ ρ = [some (0, .list (eI ns)), some (2, d'), some (0, .list (eP L)), some (0, .int n), some (0, .int (per L)), none, none, none, none, none, none, none, none, none, none, none, none, none, none, none, none, none] ∧ x.length = i ∧ BdX x ∧ Deck (3000 + 30 * i) d')
    (rangeD 0 n) 0 [] (fun i dd acc ρ hdd hI => ?_) ⟨[], d3, rfl, rfl, rfl, (fun _ h => nomatch h), hd3.mono (by omega)⟩ (fun l ρ' hI => ?_)
  · obtain ⟨rfl, hi⟩ := range_get hdd
    rw [Nat.zero_add] at hI ⊢
    obtain ⟨x, d4, rfl, rfl, hlx, hbx, hd4⟩ := hI
    simp only [compB_sat, sOk, sat_bad, own_c0, own_cs, set_c0, set_cs, getS_c0, getS_cs, e_var, e_bor, e_iou, e_mov, e_frz, frz_some, e_cst, e_glb, e_flat, e_op1, e_op2, e_chn, chn_b, e_and, e_or, e_ife, lst_l, e_tup, e_lst, e_nil, e_cons, e_sub, e_key, e_slc, e_nop, e_rev, e_blt, e_call, it_l, it_t, e_comp, e_val, int_i, e_rng1, e_rng2, zip_l, zip_t, e_zip, e_pop, e_dsp, t_b, t_i, o_neg, o_not, o_add, o_sub, o_mul, o_fdv, o_mod, o_pow, o_lt, o_le, o_gt, o_ge, o_eq, o_ne, o_addL, o_inn, o_nin, o_isn, o_isnn, o_subL, o_subT, o_len, o_lenT, o_tupl, o_list, o_int, o_abs, o_max, o_min, o_gcd, o_sum, o_all, o_any, rb, eqvS, rf_nil, rf_none, rf_some, p_nil, p_none, p_some, a_nm, a_tup, a_nil, a_cons, s_skp, then_nx, then_rt, then_bk, then_ct, s_seq, s_asg, s_fre, s_par, ps_nil, ps_cons, s_exp, s_ret, s_rtn, s_ifs, s_lop, s_brk, s_cnt, s_nvr, s_app, s_set, s_setK, c_lst, ap_lst, si_lst, end_nx, end_rt, oo_nil, oo_0, oo_s, dk_c, dk_m, dk_d, dk_set, dk_can, dk_app, permL, List.filterMap_cons, List.filterMap_nil, List.getElem?_cons_zero, List.getElem?_cons_succ, List.cons_append, List.nil_append, List.append_nil, at0, at1, at2, isi_int, isi_bool, isi_tup, eqvI, Option.some.injEq, exists_eq_left', true_and, and_true, wipeR, Bool.not_true, Bool.not_false, forall_const, List.map_cons, List.map_nil, reduceCtorEq, false_implies, implies_true, true_implies, Bool.true_eq_false, Bool.false_eq_true, eq_self, o_slc, i2_nh, h50]
    refine ⟨by decide, ?_⟩
    refine sat_imp (hS _ d4 (10 ^ 50) hd4 (by omega) (by decide) (by decide)) ?_
    rintro _ ⟨z, d5, rfl, z0, z1, hd5⟩
    simp only [sOk, sat_bad, own_c0, own_cs, set_c0, set_cs, getS_c0, getS_cs, e_var, e_bor, e_iou, e_mov, e_frz, frz_some, e_cst, e_glb, e_flat, e_op1, e_op2, e_chn, chn_b, e_and, e_or, e_ife, lst_l, e_tup, e_lst, e_nil, e_cons, e_sub, e_key, e_slc, e_nop, e_rev, e_blt, e_call, it_l, it_t, e_comp, e_val, int_i, e_rng1, e_rng2, zip_l, zip_t, e_zip, e_pop, e_dsp, t_b, t_i, o_neg, o_not, o_add, o_sub, o_mul, o_fdv, o_mod, o_pow, o_lt, o_le, o_gt, o_ge, o_eq, o_ne, o_addL, o_inn, o_nin, o_isn, o_isnn, o_subL, o_subT, o_len, o_lenT, o_tupl, o_list, o_int, o_abs, o_max, o_min, o_gcd, o_sum, o_all, o_any, rb, eqvS, rf_nil, rf_none, rf_some, p_nil, p_none, p_some, a_nm, a_tup, a_nil, a_cons, s_skp, then_nx, then_rt, then_bk, then_ct, s_seq, s_asg, s_fre, s_par, ps_nil, ps_cons, s_exp, s_ret, s_rtn, s_ifs, s_lop, s_brk, s_cnt, s_nvr, s_app, s_set, s_setK, c_lst, ap_lst, si_lst, end_nx, end_rt, oo_nil, oo_0, oo_s, dk_c, dk_m, dk_d, dk_set, dk_can, dk_app, permL, List.filterMap_cons, List.filterMap_nil, List.getElem?_cons_zero, List.getElem?_cons_succ, List.cons_append, List.nil_append, List.append_nil, at0, at1, at2, isi_int, isi_bool, isi_tup, eqvI, Option.some.injEq, exists_eq_left', true_and, and_true, wipeR, Bool.not_true, Bool.not_false, forall_const, List.map_cons, List.map_nil, reduceCtorEq, false_implies, implies_true, true_implies, Bool.true_eq_false, Bool.false_eq_true, eq_self, o_slc, i2_nh]
    refine ⟨x ++ [z], d5, by simp only [eI, List.map_append, List.map_cons, List.map_nil, Option.toList], rfl, by rw [List.length_append, hlx]; rfl, fun a ha => ?_, hd5.mono (by omega)⟩
    rcases List.mem_append.mp ha with ha | ha
    · exact hbx a ha
    · rw [List.mem_singleton.mp ha]
      omega
  obtain ⟨x, d4, e, rfl, hlx, hbx, hd4⟩ := hI
  rw [List.nil_append] at e
  subst e
  rw [range_len] at hlx hd4
  have hlx : x.length = c.length := by omega
  have hx' : Bd x := fun a ha => by have := hbx a ha; omega
  simp only [sOk, sat_bad, own_c0, own_cs, set_c0, set_cs, getS_c0, getS_cs, e_var, e_bor, e_iou, e_mov, e_frz, frz_some, e_cst, e_glb, e_flat, e_op1, e_op2, e_chn, chn_b, e_and, e_or, e_ife, lst_l, e_tup, e_lst, e_nil, e_cons, e_sub, e_key, e_slc, e_nop, e_rev, e_blt, e_call, it_l, it_t, e_comp, e_val, int_i, e_rng1, e_rng2, zip_l, zip_t, e_zip, e_pop, e_dsp, t_b, t_i, o_neg, o_not, o_add, o_sub, o_mul, o_fdv, o_mod, o_pow, o_lt, o_le, o_gt, o_ge, o_eq, o_ne, o_addL, o_inn, o_nin, o_isn, o_isnn, o_subL, o_subT, o_len, o_lenT, o_tupl, o_list, o_int, o_abs, o_max, o_min, o_gcd, o_sum, o_all, o_any, rb, eqvS, rf_nil, rf_none, rf_some, p_nil, p_none, p_some, a_nm, a_tup, a_nil, a_cons, s_skp, then_nx, then_rt, then_bk, then_ct, s_seq, s_asg, s_fre, s_par, ps_nil, ps_cons, s_exp, s_ret, s_rtn, s_ifs, s_lop, s_brk, s_cnt, s_nvr, s_app, s_set, s_setK, c_lst, ap_lst, si_lst, end_nx, end_rt, oo_nil, oo_0, oo_s, dk_c, dk_m, dk_d, dk_set, dk_can, dk_app, permL, List.filterMap_cons, List.filterMap_nil, List.getElem?_cons_zero, List.getElem?_cons_succ, List.cons_append, List.nil_append, List.append_nil, at0, at1, at2, isi_int, isi_bool, isi_tup, eqvI, Option.some.injEq, exists_eq_left', true_and, and_true, wipeR, Bool.not_true, Bool.not_false, forall_const, List.map_cons, List.map_nil, reduceCtorEq, false_implies, implies_true, true_implies, Bool.true_eq_false, Bool.false_eq_true, eq_self, o_slc, i2_nh]
  simp only [s_law_4, sOk, sat_bad, own_c0, own_cs, set_c0, set_cs, getS_c0, getS_cs, e_var, e_bor, e_iou, e_mov, e_frz, frz_some, e_cst, e_glb, e_flat, e_op1, e_op2, e_chn, chn_b, e_and, e_or, e_ife, lst_l, e_tup, e_lst, e_nil, e_cons, e_sub, e_key, e_slc, e_nop, e_rev, e_blt, e_call, it_l, it_t, e_comp, e_val, int_i, e_rng1, e_rng2, zip_l, zip_t, e_zip, e_pop, e_dsp, t_b, t_i, o_neg, o_not, o_add, o_sub, o_mul, o_fdv, o_mod, o_pow, o_lt, o_le, o_gt, o_ge, o_eq, o_ne, o_addL, o_inn, o_nin, o_isn, o_isnn, o_subL, o_subT, o_len, o_lenT, o_tupl, o_list, o_int, o_abs, o_max, o_min, o_gcd, o_sum, o_all, o_any, rb, eqvS, rf_nil, rf_none, rf_some, p_nil, p_none, p_some, a_nm, a_tup, a_nil, a_cons, s_skp, then_nx, then_rt, then_bk, then_ct, s_seq, s_asg, s_fre, s_par, ps_nil, ps_cons, s_exp, s_ret, s_rtn, s_ifs, s_lop, s_brk, s_cnt, s_nvr, s_app, s_set, s_setK, c_lst, ap_lst, si_lst, end_nx, end_rt, oo_nil, oo_0, oo_s, dk_c, dk_m, dk_d, dk_set, dk_can, dk_app, permL, List.filterMap_cons, List.filterMap_nil, List.getElem?_cons_zero, List.getElem?_cons_succ, List.cons_append, List.nil_append, List.append_nil, at0, at1, at2, isi_int, isi_bool, isi_tup, eqvI, Option.some.injEq, exists_eq_left', true_and, and_true, wipeR, Bool.not_true, Bool.not_false, forall_const, List.map_cons, List.map_nil, reduceCtorEq, false_implies, implies_true, true_implies, Bool.true_eq_false, Bool.false_eq_true, eq_self, o_slc, i2_nh]
  refine sat_imp (hA c x (by omega) (v.bd P) hx') ?_
  rintro _ rfl
  simp only [sOk, sat_bad, own_c0, own_cs, set_c0, set_cs, getS_c0, getS_cs, e_var, e_bor, e_iou, e_mov, e_frz, frz_some, e_cst, e_glb, e_flat, e_op1, e_op2, e_chn, chn_b, e_and, e_or, e_ife, lst_l, e_tup, e_lst, e_nil, e_cons, e_sub, e_key, e_slc, e_nop, e_rev, e_blt, e_call, it_l, it_t, e_comp, e_val, int_i, e_rng1, e_rng2, zip_l, zip_t, e_zip, e_pop, e_dsp, t_b, t_i, o_neg, o_not, o_add, o_sub, o_mul, o_fdv, o_mod, o_pow, o_lt, o_le, o_gt, o_ge, o_eq, o_ne, o_addL, o_inn, o_nin, o_isn, o_isnn, o_subL, o_subT, o_len, o_lenT, o_tupl, o_list, o_int, o_abs, o_max, o_min, o_gcd, o_sum, o_all, o_any, rb, eqvS, rf_nil, rf_none, rf_some, p_nil, p_none, p_some, a_nm, a_tup, a_nil, a_cons, s_skp, then_nx, then_rt, then_bk, then_ct, s_seq, s_asg, s_fre, s_par, ps_nil, ps_cons, s_exp, s_ret, s_rtn, s_ifs, s_lop, s_brk, s_cnt, s_nvr, s_app, s_set, s_setK, c_lst, ap_lst, si_lst, end_nx, end_rt, oo_nil, oo_0, oo_s, dk_c, dk_m, dk_d, dk_set, dk_can, dk_app, permL, List.filterMap_cons, List.filterMap_nil, List.getElem?_cons_zero, List.getElem?_cons_succ, List.cons_append, List.nil_append, List.append_nil, at0, at1, at2, isi_int, isi_bool, isi_tup, eqvI, Option.some.injEq, exists_eq_left', true_and, and_true, wipeR, Bool.not_true, Bool.not_false, forall_const, List.map_cons, List.map_nil, reduceCtorEq, false_implies, implies_true, true_implies, Bool.true_eq_false, Bool.false_eq_true, eq_self, o_slc, i2_nh]
  refine ⟨by omega, ?_⟩
  have r0 := Int.emod_nonneg (dot c x) (b := (per L : Int)) (by omega)
  have r1 := Int.emod_lt_of_pos (dot c x) (b := (per L : Int)) (by omega)
  have hr : (per L : Int) ∣ dot c x % (per L : Int) - dot c x := dvd_self_mod _ _
  generalize hrr : dot c x % (per L : Int) = r at *
  have on : (dot c x - r) % (per L : Int) = 0 := by
    refine Int.emod_eq_zero_of_dvd ?_
    have := Int.dvd_neg.mpr hr
    rwa [Int.neg_sub] at this
  simp only [s_law_5, sOk, sat_bad, own_c0, own_cs, set_c0, set_cs, getS_c0, getS_cs, e_var, e_bor, e_iou, e_mov, e_frz, frz_some, e_cst, e_glb, e_flat, e_op1, e_op2, e_chn, chn_b, e_and, e_or, e_ife, lst_l, e_tup, e_lst, e_nil, e_cons, e_sub, e_key, e_slc, e_nop, e_rev, e_blt, e_call, it_l, it_t, e_comp, e_val, int_i, e_rng1, e_rng2, zip_l, zip_t, e_zip, e_pop, e_dsp, t_b, t_i, o_neg, o_not, o_add, o_sub, o_mul, o_fdv, o_mod, o_pow, o_lt, o_le, o_gt, o_ge, o_eq, o_ne, o_addL, o_inn, o_nin, o_isn, o_isnn, o_subL, o_subT, o_len, o_lenT, o_tupl, o_list, o_int, o_abs, o_max, o_min, o_gcd, o_sum, o_all, o_any, rb, eqvS, rf_nil, rf_none, rf_some, p_nil, p_none, p_some, a_nm, a_tup, a_nil, a_cons, s_skp, then_nx, then_rt, then_bk, then_ct, s_seq, s_asg, s_fre, s_par, ps_nil, ps_cons, s_exp, s_ret, s_rtn, s_ifs, s_lop, s_brk, s_cnt, s_nvr, s_app, s_set, s_setK, c_lst, ap_lst, si_lst, end_nx, end_rt, oo_nil, oo_0, oo_s, dk_c, dk_m, dk_d, dk_set, dk_can, dk_app, permL, List.filterMap_cons, List.filterMap_nil, List.getElem?_cons_zero, List.getElem?_cons_succ, List.cons_append, List.nil_append, List.append_nil, at0, at1, at2, isi_int, isi_bool, isi_tup, eqvI, Option.some.injEq, exists_eq_left', true_and, and_true, wipeR, Bool.not_true, Bool.not_false, forall_const, List.map_cons, List.map_nil, reduceCtorEq, false_implies, implies_true, true_implies, Bool.true_eq_false, Bool.false_eq_true, eq_self, o_slc, i2_nh]
  refine sat_imp (hUn _ d4 L P hd4 (by omega)) ?_
  rintro _ ⟨u, d5, rfl, hu, u0, u1, hd5⟩
  simp only [sOk, sat_bad, own_c0, own_cs, set_c0, set_cs, getS_c0, getS_cs, e_var, e_bor, e_iou, e_mov, e_frz, frz_some, e_cst, e_glb, e_flat, e_op1, e_op2, e_chn, chn_b, e_and, e_or, e_ife, lst_l, e_tup, e_lst, e_nil, e_cons, e_sub, e_key, e_slc, e_nop, e_rev, e_blt, e_call, it_l, it_t, e_comp, e_val, int_i, e_rng1, e_rng2, zip_l, zip_t, e_zip, e_pop, e_dsp, t_b, t_i, o_neg, o_not, o_add, o_sub, o_mul, o_fdv, o_mod, o_pow, o_lt, o_le, o_gt, o_ge, o_eq, o_ne, o_addL, o_inn, o_nin, o_isn, o_isnn, o_subL, o_subT, o_len, o_lenT, o_tupl, o_list, o_int, o_abs, o_max, o_min, o_gcd, o_sum, o_all, o_any, rb, eqvS, rf_nil, rf_none, rf_some, p_nil, p_none, p_some, a_nm, a_tup, a_nil, a_cons, s_skp, then_nx, then_rt, then_bk, then_ct, s_seq, s_asg, s_fre, s_par, ps_nil, ps_cons, s_exp, s_ret, s_rtn, s_ifs, s_lop, s_brk, s_cnt, s_nvr, s_app, s_set, s_setK, c_lst, ap_lst, si_lst, end_nx, end_rt, oo_nil, oo_0, oo_s, dk_c, dk_m, dk_d, dk_set, dk_can, dk_app, permL, List.filterMap_cons, List.filterMap_nil, List.getElem?_cons_zero, List.getElem?_cons_succ, List.cons_append, List.nil_append, List.append_nil, at0, at1, at2, isi_int, isi_bool, isi_tup, eqvI, Option.some.injEq, exists_eq_left', true_and, and_true, wipeR, Bool.not_true, Bool.not_false, forall_const, List.map_cons, List.map_nil, reduceCtorEq, false_implies, implies_true, true_implies, Bool.true_eq_false, Bool.false_eq_true, eq_self, o_slc, i2_nh]
  simp only [s_law_6, sOk, sat_bad, own_c0, own_cs, set_c0, set_cs, getS_c0, getS_cs, e_var, e_bor, e_iou, e_mov, e_frz, frz_some, e_cst, e_glb, e_flat, e_op1, e_op2, e_chn, chn_b, e_and, e_or, e_ife, lst_l, e_tup, e_lst, e_nil, e_cons, e_sub, e_key, e_slc, e_nop, e_rev, e_blt, e_call, it_l, it_t, e_comp, e_val, int_i, e_rng1, e_rng2, zip_l, zip_t, e_zip, e_pop, e_dsp, t_b, t_i, o_neg, o_not, o_add, o_sub, o_mul, o_fdv, o_mod, o_pow, o_lt, o_le, o_gt, o_ge, o_eq, o_ne, o_addL, o_inn, o_nin, o_isn, o_isnn, o_subL, o_subT, o_len, o_lenT, o_tupl, o_list, o_int, o_abs, o_max, o_min, o_gcd, o_sum, o_all, o_any, rb, eqvS, rf_nil, rf_none, rf_some, p_nil, p_none, p_some, a_nm, a_tup, a_nil, a_cons, s_skp, then_nx, then_rt, then_bk, then_ct, s_seq, s_asg, s_fre, s_par, ps_nil, ps_cons, s_exp, s_ret, s_rtn, s_ifs, s_lop, s_brk, s_cnt, s_nvr, s_app, s_set, s_setK, c_lst, ap_lst, si_lst, end_nx, end_rt, oo_nil, oo_0, oo_s, dk_c, dk_m, dk_d, dk_set, dk_can, dk_app, permL, List.filterMap_cons, List.filterMap_nil, List.getElem?_cons_zero, List.getElem?_cons_succ, List.cons_append, List.nil_append, List.append_nil, at0, at1, at2, isi_int, isi_bool, isi_tup, eqvI, Option.some.injEq, exists_eq_left', true_and, and_true, wipeR, Bool.not_true, Bool.not_false, forall_const, List.map_cons, List.map_nil, reduceCtorEq, false_implies, implies_true, true_implies, Bool.true_eq_false, Bool.false_eq_true, eq_self, o_slc, i2_nh]
  refine ⟨⟨rfl, by rw [List.length_map]; omega⟩, ?_⟩
  refine cmap (.int) (fun a => .int ((u * a) % (per L : Int))) c (fun a ha => ?_) ?_
  · have := v.rng a ha
    simp only [compB_sat, sOk, sat_bad, own_c0, own_cs, set_c0, set_cs, getS_c0, getS_cs, e_var, e_bor, e_iou, e_mov, e_frz, frz_some, e_cst, e_glb, e_flat, e_op1, e_op2, e_chn, chn_b, e_and, e_or, e_ife, lst_l, e_tup, e_lst, e_nil, e_cons, e_sub, e_key, e_slc, e_nop, e_rev, e_blt, e_call, it_l, it_t, e_comp, e_val, int_i, e_rng1, e_rng2, zip_l, zip_t, e_zip, e_pop, e_dsp, t_b, t_i, o_neg, o_not, o_add, o_sub, o_mul, o_fdv, o_mod, o_pow, o_lt, o_le, o_gt, o_ge, o_eq, o_ne, o_addL, o_inn, o_nin, o_isn, o_isnn, o_subL, o_subT, o_len, o_lenT, o_tupl, o_list, o_int, o_abs, o_max, o_min, o_gcd, o_sum, o_all, o_any, rb, eqvS, rf_nil, rf_none, rf_some, p_nil, p_none, p_some, a_nm, a_tup, a_nil, a_cons, s_skp, then_nx, then_rt, then_bk, then_ct, s_seq, s_asg, s_fre, s_par, ps_nil, ps_cons, s_exp, s_ret, s_rtn, s_ifs, s_lop, s_brk, s_cnt, s_nvr, s_app, s_set, s_setK, c_lst, ap_lst, si_lst, end_nx, end_rt, oo_nil, oo_0, oo_s, dk_c, dk_m, dk_d, dk_set, dk_can, dk_app, permL, List.filterMap_cons, List.filterMap_nil, List.getElem?_cons_zero, List.getElem?_cons_succ, List.cons_append, List.nil_append, List.append_nil, at0, at1, at2, isi_int, isi_bool, isi_tup, eqvI, Option.some.injEq, exists_eq_left', true_and, and_true, wipeR, Bool.not_true, Bool.not_false, forall_const, List.map_cons, List.map_nil, reduceCtorEq, false_implies, implies_true, true_implies, Bool.true_eq_false, Bool.false_eq_true, eq_self, o_slc, i2_nh]
    exact ⟨mulOk_of (by omega) (by omega), by omega⟩
  have e2 : c.map (fun a => PyData.int ((u * a) % (per L : Int))) = eI (c.map fun a => (u * a) % (per L : Int)) := by rw [eI, List.map_map]; rfl
  rw [e2]
  simp only [sOk, sat_bad, own_c0, own_cs, set_c0, set_cs, getS_c0, getS_cs, e_var, e_bor, e_iou, e_mov, e_frz, frz_some, e_cst, e_glb, e_flat, e_op1, e_op2, e_chn, chn_b, e_and, e_or, e_ife, lst_l, e_tup, e_lst, e_nil, e_cons, e_sub, e_key, e_slc, e_nop, e_rev, e_blt, e_call, it_l, it_t, e_comp, e_val, int_i, e_rng1, e_rng2, zip_l, zip_t, e_zip, e_pop, e_dsp, t_b, t_i, o_neg, o_not, o_add, o_sub, o_mul, o_fdv, o_mod, o_pow, o_lt, o_le, o_gt, o_ge, o_eq, o_ne, o_addL, o_inn, o_nin, o_isn, o_isnn, o_subL, o_subT, o_len, o_lenT, o_tupl, o_list, o_int, o_abs, o_max, o_min, o_gcd, o_sum, o_all, o_any, rb, eqvS, rf_nil, rf_none, rf_some, p_nil, p_none, p_some, a_nm, a_tup, a_nil, a_cons, s_skp, then_nx, then_rt, then_bk, then_ct, s_seq, s_asg, s_fre, s_par, ps_nil, ps_cons, s_exp, s_ret, s_rtn, s_ifs, s_lop, s_brk, s_cnt, s_nvr, s_app, s_set, s_setK, c_lst, ap_lst, si_lst, end_nx, end_rt, oo_nil, oo_0, oo_s, dk_c, dk_m, dk_d, dk_set, dk_can, dk_app, permL, List.filterMap_cons, List.filterMap_nil, List.getElem?_cons_zero, List.getElem?_cons_succ, List.cons_append, List.nil_append, List.append_nil, at0, at1, at2, isi_int, isi_bool, isi_tup, eqvI, Option.some.injEq, exists_eq_left', true_and, and_true, wipeR, Bool.not_true, Bool.not_false, forall_const, List.map_cons, List.map_nil, reduceCtorEq, false_implies, implies_true, true_implies, Bool.true_eq_false, Bool.false_eq_true, eq_self, o_slc, i2_nh]
  refine ⟨mulOk_of (by omega) (by omega), by omega, ?_⟩
  have v2 := valC_unit P v hu
  have q0 := Int.emod_nonneg (u * r) (b := (per L : Int)) (by omega)
  have q1 := Int.emod_lt_of_pos (u * r) (b := (per L : Int)) (by omega)
  have like : ∀ y : List Int, (per L : Int) ∣ dot (c.map fun a => (u * a) % (per L : Int)) y - u * dot c y := fun y => dot_congr fun a _ => dvd_self_mod _ _
  have hl2 : (c.map fun a => (u * a) % (per L : Int)).length = c.length := List.length_map _
  have on2 : (dot (c.map fun a => (u * a) % (per L : Int)) x - (u * r) % (per L : Int)) % (per L : Int) = 0 := by
    have h1 := like x
    have h2 := dvd_self_mod (per L : Int) (u * r)
    have h3 : (per L : Int) ∣ u * (dot c x - r) := Int.dvd_trans (Int.dvd_of_emod_eq_zero on) (Int.dvd_mul_left _ _)
    rw [Int.mul_sub] at h3
    refine Int.emod_eq_zero_of_dvd ?_
    have e : dot (c.map fun a => (u * a) % (per L : Int)) x - (u * r) % (per L : Int) = (dot (c.map fun a => (u * a) % (per L : Int)) x - u * dot c x) - ((u * r) % (per L : Int) - u * r) + (u * dot c x - u * r) := by omega
    rw [e]
    exact Int.dvd_add (Int.dvd_sub h1 h2) h3
  generalize hc2 : (c.map fun a => (u * a) % (per L : Int)) = c2 at *
  generalize hr2 : (u * r) % (per L : Int) = r2 at *
  simp only [s_law_7, sOk, sat_bad, own_c0, own_cs, set_c0, set_cs, getS_c0, getS_cs, e_var, e_bor, e_iou, e_mov, e_frz, frz_some, e_cst, e_glb, e_flat, e_op1, e_op2, e_chn, chn_b, e_and, e_or, e_ife, lst_l, e_tup, e_lst, e_nil, e_cons, e_sub, e_key, e_slc, e_nop, e_rev, e_blt, e_call, it_l, it_t, e_comp, e_val, int_i, e_rng1, e_rng2, zip_l, zip_t, e_zip, e_pop, e_dsp, t_b, t_i, o_neg, o_not, o_add, o_sub, o_mul, o_fdv, o_mod, o_pow, o_lt, o_le, o_gt, o_ge, o_eq, o_ne, o_addL, o_inn, o_nin, o_isn, o_isnn, o_subL, o_subT, o_len, o_lenT, o_tupl, o_list, o_int, o_abs, o_max, o_min, o_gcd, o_sum, o_all, o_any, rb, eqvS, rf_nil, rf_none, rf_some, p_nil, p_none, p_some, a_nm, a_tup, a_nil, a_cons, s_skp, then_nx, then_rt, then_bk, then_ct, s_seq, s_asg, s_fre, s_par, ps_nil, ps_cons, s_exp, s_ret, s_rtn, s_ifs, s_lop, s_brk, s_cnt, s_nvr, s_app, s_set, s_setK, c_lst, ap_lst, si_lst, end_nx, end_rt, oo_nil, oo_0, oo_s, dk_c, dk_m, dk_d, dk_set, dk_can, dk_app, permL, List.filterMap_cons, List.filterMap_nil, List.getElem?_cons_zero, List.getElem?_cons_succ, List.cons_append, List.nil_append, List.append_nil, at0, at1, at2, isi_int, isi_bool, isi_tup, eqvI, Option.some.injEq, exists_eq_left', true_and, and_true, wipeR, Bool.not_true, Bool.not_false, forall_const, List.map_cons, List.map_nil, reduceCtorEq, false_implies, implies_true, true_implies, Bool.true_eq_false, Bool.false_eq_true, eq_self, o_slc, i2_nh]
  refine sat_imp (hG _ d5 (per L) hd5 (by omega) (by omega) (by omega)) ?_
  rintro _ ⟨g, d6, rfl, g0, g1, hd6⟩
  simp only [sOk, sat_bad, own_c0, own_cs, set_c0, set_cs, getS_c0, getS_cs, e_var, e_bor, e_iou, e_mov, e_frz, frz_some, e_cst, e_glb, e_flat, e_op1, e_op2, e_chn, chn_b, e_and, e_or, e_ife, lst_l, e_tup, e_lst, e_nil, e_cons, e_sub, e_key, e_slc, e_nop, e_rev, e_blt, e_call, it_l, it_t, e_comp, e_val, int_i, e_rng1, e_rng2, zip_l, zip_t, e_zip, e_pop, e_dsp, t_b, t_i, o_neg, o_not, o_add, o_sub, o_mul, o_fdv, o_mod, o_pow, o_lt, o_le, o_gt, o_ge, o_eq, o_ne, o_addL, o_inn, o_nin, o_isn, o_isnn, o_subL, o_subT, o_len, o_lenT, o_tupl, o_list, o_int, o_abs, o_max, o_min, o_gcd, o_sum, o_all, o_any, rb, eqvS, rf_nil, rf_none, rf_some, p_nil, p_none, p_some, a_nm, a_tup, a_nil, a_cons, s_skp, then_nx, then_rt, then_bk, then_ct, s_seq, s_asg, s_fre, s_par, ps_nil, ps_cons, s_exp, s_ret, s_rtn, s_ifs, s_lop, s_brk, s_cnt, s_nvr, s_app, s_set, s_setK, c_lst, ap_lst, si_lst, end_nx, end_rt, oo_nil, oo_0, oo_s, dk_c, dk_m, dk_d, dk_set, dk_can, dk_app, permL, List.filterMap_cons, List.filterMap_nil, List.getElem?_cons_zero, List.getElem?_cons_succ, List.cons_append, List.nil_append, List.append_nil, at0, at1, at2, isi_int, isi_bool, isi_tup, eqvI, Option.some.injEq, exists_eq_left', true_and, and_true, wipeR, Bool.not_true, Bool.not_false, forall_const, List.map_cons, List.map_nil, reduceCtorEq, false_implies, implies_true, true_implies, Bool.true_eq_false, Bool.false_eq_true, eq_self, o_slc, i2_nh]
  refine ⟨⟨by omega, by decide⟩, ⟨rfl, by rw [List.length_map]; omega⟩, ?_⟩
  refine cmap (fun x : Nat × Nat => .tuple [.int (x.1 : Int), .int (x.2 : Int)]) (fun x => .int ((per L : Int) / (x.1 : Int))) L (fun a ha => ?_) ?_
  · have := pr_bd (P.pr a ha)
    simp only [compB_sat, sOk, sat_bad, own_c0, own_cs, set_c0, set_cs, getS_c0, getS_cs, e_var, e_bor, e_iou, e_mov, e_frz, frz_some, e_cst, e_glb, e_flat, e_op1, e_op2, e_chn, chn_b, e_and, e_or, e_ife, lst_l, e_tup, e_lst, e_nil, e_cons, e_sub, e_key, e_slc, e_nop, e_rev, e_blt, e_call, it_l, it_t, e_comp, e_val, int_i, e_rng1, e_rng2, zip_l, zip_t, e_zip, e_pop, e_dsp, t_b, t_i, o_neg, o_not, o_add, o_sub, o_mul, o_fdv, o_mod, o_pow, o_lt, o_le, o_gt, o_ge, o_eq, o_ne, o_addL, o_inn, o_nin, o_isn, o_isnn, o_subL, o_subT, o_len, o_lenT, o_tupl, o_list, o_int, o_abs, o_max, o_min, o_gcd, o_sum, o_all, o_any, rb, eqvS, rf_nil, rf_none, rf_some, p_nil, p_none, p_some, a_nm, a_tup, a_nil, a_cons, s_skp, then_nx, then_rt, then_bk, then_ct, s_seq, s_asg, s_fre, s_par, ps_nil, ps_cons, s_exp, s_ret, s_rtn, s_ifs, s_lop, s_brk, s_cnt, s_nvr, s_app, s_set, s_setK, c_lst, ap_lst, si_lst, end_nx, end_rt, oo_nil, oo_0, oo_s, dk_c, dk_m, dk_d, dk_set, dk_can, dk_app, permL, List.filterMap_cons, List.filterMap_nil, List.getElem?_cons_zero, List.getElem?_cons_succ, List.cons_append, List.nil_append, List.append_nil, at0, at1, at2, isi_int, isi_bool, isi_tup, eqvI, Option.some.injEq, exists_eq_left', true_and, and_true, wipeR, Bool.not_true, Bool.not_false, forall_const, List.map_cons, List.map_nil, reduceCtorEq, false_implies, implies_true, true_implies, Bool.true_eq_false, Bool.false_eq_true, eq_self, o_slc, i2_nh]
    exact ⟨by omega, lg (by omega) (by omega)⟩
  simp only [sOk, sat_bad, own_c0, own_cs, set_c0, set_cs, getS_c0, getS_cs, e_var, e_bor, e_iou, e_mov, e_frz, frz_some, e_cst, e_glb, e_flat, e_op1, e_op2, e_chn, chn_b, e_and, e_or, e_ife, lst_l, e_tup, e_lst, e_nil, e_cons, e_sub, e_key, e_slc, e_nop, e_rev, e_blt, e_call, it_l, it_t, e_comp, e_val, int_i, e_rng1, e_rng2, zip_l, zip_t, e_zip, e_pop, e_dsp, t_b, t_i, o_neg, o_not, o_add, o_sub, o_mul, o_fdv, o_mod, o_pow, o_lt, o_le, o_gt, o_ge, o_eq, o_ne, o_addL, o_inn, o_nin, o_isn, o_isnn, o_subL, o_subT, o_len, o_lenT, o_tupl, o_list, o_int, o_abs, o_max, o_min, o_gcd, o_sum, o_all, o_any, rb, eqvS, rf_nil, rf_none, rf_some, p_nil, p_none, p_some, a_nm, a_tup, a_nil, a_cons, s_skp, then_nx, then_rt, then_bk, then_ct, s_seq, s_asg, s_fre, s_par, ps_nil, ps_cons, s_exp, s_ret, s_rtn, s_ifs, s_lop, s_brk, s_cnt, s_nvr, s_app, s_set, s_setK, c_lst, ap_lst, si_lst, end_nx, end_rt, oo_nil, oo_0, oo_s, dk_c, dk_m, dk_d, dk_set, dk_can, dk_app, permL, List.filterMap_cons, List.filterMap_nil, List.getElem?_cons_zero, List.getElem?_cons_succ, List.cons_append, List.nil_append, List.append_nil, at0, at1, at2, isi_int, isi_bool, isi_tup, eqvI, Option.some.injEq, exists_eq_left', true_and, and_true, wipeR, Bool.not_true, Bool.not_false, forall_const, List.map_cons, List.map_nil, reduceCtorEq, false_implies, implies_true, true_implies, Bool.true_eq_false, Bool.false_eq_true, eq_self, o_slc, i2_nh]
  refine ⟨by simp only [List.length_cons, List.length_nil, List.length_map]; omega, ⟨rfl, by rw [List.length_map]; omega⟩, ?_⟩
  refine cmap (fun x : Nat × Nat => .tuple [.int (x.1 : Int), .int (x.2 : Int)]) (fun x => .int (x.2 : Int)) L (fun a ha => ?_) ?_
  · simp only [compB_sat, sOk, sat_bad, own_c0, own_cs, set_c0, set_cs, getS_c0, getS_cs, e_var, e_bor, e_iou, e_mov, e_frz, frz_some, e_cst, e_glb, e_flat, e_op1, e_op2, e_chn, chn_b, e_and, e_or, e_ife, lst_l, e_tup, e_lst, e_nil, e_cons, e_sub, e_key, e_slc, e_nop, e_rev, e_blt, e_call, it_l, it_t, e_comp, e_val, int_i, e_rng1, e_rng2, zip_l, zip_t, e_zip, e_pop, e_dsp, t_b, t_i, o_neg, o_not, o_add, o_sub, o_mul, o_fdv, o_mod, o_pow, o_lt, o_le, o_gt, o_ge, o_eq, o_ne, o_addL, o_inn, o_nin, o_isn, o_isnn, o_subL, o_subT, o_len, o_lenT, o_tupl, o_list, o_int, o_abs, o_max, o_min, o_gcd, o_sum, o_all, o_any, rb, eqvS, rf_nil, rf_none, rf_some, p_nil, p_none, p_some, a_nm, a_tup, a_nil, a_cons, s_skp, then_nx, then_rt, then_bk, then_ct, s_seq, s_asg, s_fre, s_par, ps_nil, ps_cons, s_exp, s_ret, s_rtn, s_ifs, s_lop, s_brk, s_cnt, s_nvr, s_app, s_set, s_setK, c_lst, ap_lst, si_lst, end_nx, end_rt, oo_nil, oo_0, oo_s, dk_c, dk_m, dk_d, dk_set, dk_can, dk_app, permL, List.filterMap_cons, List.filterMap_nil, List.getElem?_cons_zero, List.getElem?_cons_succ, List.cons_append, List.nil_append, List.append_nil, at0, at1, at2, isi_int, isi_bool, isi_tup, eqvI, Option.some.injEq, exists_eq_left', true_and, and_true, wipeR, Bool.not_true, Bool.not_false, forall_const, List.map_cons, List.map_nil, reduceCtorEq, false_implies, implies_true, true_implies, Bool.true_eq_false, Bool.false_eq_true, eq_self, o_slc, i2_nh]
  simp only [sOk, sat_bad, own_c0, own_cs, set_c0, set_cs, getS_c0, getS_cs, e_var, e_bor, e_iou, e_mov, e_frz, frz_some, e_cst, e_glb, e_flat, e_op1, e_op2, e_chn, chn_b, e_and, e_or, e_ife, lst_l, e_tup, e_lst, e_nil, e_cons, e_sub, e_key, e_slc, e_nop, e_rev, e_blt, e_call, it_l, it_t, e_comp, e_val, int_i, e_rng1, e_rng2, zip_l, zip_t, e_zip, e_pop, e_dsp, t_b, t_i, o_neg, o_not, o_add, o_sub, o_mul, o_fdv, o_mod, o_pow, o_lt, o_le, o_gt, o_ge, o_eq, o_ne, o_addL, o_inn, o_nin, o_isn, o_isnn, o_subL, o_subT, o_len, o_lenT, o_tupl, o_list, o_int, o_abs, o_max, o_min, o_gcd, o_sum, o_all, o_any, rb, eqvS, rf_nil, rf_none, rf_some, p_nil, p_none, p_some, a_nm, a_tup, a_nil, a_cons, s_skp, then_nx, then_rt, then_bk, then_ct, s_seq, s_asg, s_fre, s_par, ps_nil, ps_cons, s_exp, s_ret, s_rtn, s_ifs, s_lop, s_brk, s_cnt, s_nvr, s_app, s_set, s_setK, c_lst, ap_lst, si_lst, end_nx, end_rt, oo_nil, oo_0, oo_s, dk_c, dk_m, dk_d, dk_set, dk_can, dk_app, permL, List.filterMap_cons, List.filterMap_nil, List.getElem?_cons_zero, List.getElem?_cons_succ, List.cons_append, List.nil_append, List.append_nil, at0, at1, at2, isi_int, isi_bool, isi_tup, eqvI, Option.some.injEq, exists_eq_left', true_and, and_true, wipeR, Bool.not_true, Bool.not_false, forall_const, List.map_cons, List.map_nil, reduceCtorEq, false_implies, implies_true, true_implies, Bool.true_eq_false, Bool.false_eq_true, eq_self, o_slc, i2_nh]
  refine ⟨by simp only [List.length_cons, List.length_map]; omega, ?_⟩
  refine loop_inv (I := fun i ρ => ∃ s11 : Slot, ρ = [some (0, .list (eI ns)), some (2, d6), some (0, .list (eP L)), some (0, .int n), some (0, .int (per L)), some (0, .tuple (eI c)), some (0, .tuple (eI x)), some (0, .int r), some (0, stripe (per L) c r), some (0, .int u), some (0, stripe (per L) c2 r2), s11, none, none, none, none, none, none, none, none, none, none]) _ 0 (fun i dd ρ hdd hI => ?_) ⟨none, rfl⟩ (fun ρ' hI => ?_)
  · obtain ⟨s11, rfl⟩ := hI
    have hk : ∃ k : Int, dd = .int k := by
      have hm := List.mem_of_getElem? hdd
      simp only [List.mem_cons, List.mem_append, List.mem_map] at hm
      rcases hm with rfl | rfl | rfl | rfl | rfl | ⟨a, _, rfl⟩ | ⟨a, _, rfl⟩ <;> exact ⟨_, rfl⟩
    obtain ⟨k, rfl⟩ := hk
    simp only [loopB_sat, b_law_7b, s_law_7b_0, sOk, sat_bad, own_c0, own_cs, set_c0, set_cs, getS_c0, getS_cs, e_var, e_bor, e_iou, e_mov, e_frz, frz_some, e_cst, e_glb, e_flat, e_op1, e_op2, e_chn, chn_b, e_and, e_or, e_ife, lst_l, e_tup, e_lst, e_nil, e_cons, e_sub, e_key, e_slc, e_nop, e_rev, e_blt, e_call, it_l, it_t, e_comp, e_val, int_i, e_rng1, e_rng2, zip_l, zip_t, e_zip, e_pop, e_dsp, t_b, t_i, o_neg, o_not, o_add, o_sub, o_mul, o_fdv, o_mod, o_pow, o_lt, o_le, o_gt, o_ge, o_eq, o_ne, o_addL, o_inn, o_nin, o_isn, o_isnn, o_subL, o_subT, o_len, o_lenT, o_tupl, o_list, o_int, o_abs, o_max, o_min, o_gcd, o_sum, o_all, o_any, rb, eqvS, rf_nil, rf_none, rf_some, p_nil, p_none, p_some, a_nm, a_tup, a_nil, a_cons, s_skp, then_nx, then_rt, then_bk, then_ct, s_seq, s_asg, s_fre, s_par, ps_nil, ps_cons, s_exp, s_ret, s_rtn, s_ifs, s_lop, s_brk, s_cnt, s_nvr, s_app, s_set, s_setK, c_lst, ap_lst, si_lst, end_nx, end_rt, oo_nil, oo_0, oo_s, dk_c, dk_m, dk_d, dk_set, dk_can, dk_app, permL, List.filterMap_cons, List.filterMap_nil, List.getElem?_cons_zero, List.getElem?_cons_succ, List.cons_append, List.nil_append, List.append_nil, at0, at1, at2, isi_int, isi_bool, isi_tup, eqvI, Option.some.injEq, exists_eq_left', true_and, and_true, wipeR, Bool.not_true, Bool.not_false, forall_const, List.map_cons, List.map_nil, reduceCtorEq, false_implies, implies_true, true_implies, Bool.true_eq_false, Bool.false_eq_true, eq_self, o_slc, i2_nh]
    refine ⟨by omega, by omega, ⟨rfl, rfl⟩, ?_⟩
    refine sat_imp (hU L c ((r + k) % (per L : Int)) x (decide (k % (per L : Int) = 0)) P v (Int.emod_nonneg _ (by omega)) (Int.emod_lt_of_pos _ (by omega)) hlx hx' ?_) ?_
    · rw [decide_eq_true_eq]
      have h1 := dvd_self_mod (per L : Int) (r + k)
      have h2 := Int.dvd_of_emod_eq_zero on
      have e : (per L : Int) ∣ dot c x - (r + k) % (per L : Int) - -k := by
        have e3 : dot c x - (r + k) % (per L : Int) - -k = (dot c x - r) - ((r + k) % (per L : Int) - (r + k)) := by omega
        rw [e3]
        exact Int.dvd_sub h2 h1
      rw [mod_iff e, ← Int.dvd_iff_emod_eq_zero, ← Int.dvd_iff_emod_eq_zero, Int.dvd_neg]
    rintro _ rfl
    simp only [sOk, sat_bad, own_c0, own_cs, set_c0, set_cs, getS_c0, getS_cs, e_var, e_bor, e_iou, e_mov, e_frz, frz_some, e_cst, e_glb, e_flat, e_op1, e_op2, e_chn, chn_b, e_and, e_or, e_ife, lst_l, e_tup, e_lst, e_nil, e_cons, e_sub, e_key, e_slc, e_nop, e_rev, e_blt, e_call, it_l, it_t, e_comp, e_val, int_i, e_rng1, e_rng2, zip_l, zip_t, e_zip, e_pop, e_dsp, t_b, t_i, o_neg, o_not, o_add, o_sub, o_mul, o_fdv, o_mod, o_pow, o_lt, o_le, o_gt, o_ge, o_eq, o_ne, o_addL, o_inn, o_nin, o_isn, o_isnn, o_subL, o_subT, o_len, o_lenT, o_tupl, o_list, o_int, o_abs, o_max, o_min, o_gcd, o_sum, o_all, o_any, rb, eqvS, rf_nil, rf_none, rf_some, p_nil, p_none, p_some, a_nm, a_tup, a_nil, a_cons, s_skp, then_nx, then_rt, then_bk, then_ct, s_seq, s_asg, s_fre, s_par, ps_nil, ps_cons, s_exp, s_ret, s_rtn, s_ifs, s_lop, s_brk, s_cnt, s_nvr, s_app, s_set, s_setK, c_lst, ap_lst, si_lst, end_nx, end_rt, oo_nil, oo_0, oo_s, dk_c, dk_m, dk_d, dk_set, dk_can, dk_app, permL, List.filterMap_cons, List.filterMap_nil, List.getElem?_cons_zero, List.getElem?_cons_succ, List.cons_append, List.nil_append, List.append_nil, at0, at1, at2, isi_int, isi_bool, isi_tup, eqvI, Option.some.injEq, exists_eq_left', true_and, and_true, wipeR, Bool.not_true, Bool.not_false, forall_const, List.map_cons, List.map_nil, reduceCtorEq, false_implies, implies_true, true_implies, Bool.true_eq_false, Bool.false_eq_true, eq_self, o_slc, i2_nh]
    exact ⟨.inl trivial, _, rfl⟩
  obtain ⟨s11, rfl⟩ := hI
  simp only [then_nx, s_seq, s_law_8, sOk, sat_bad, own_c0, own_cs, set_c0, set_cs, getS_c0, getS_cs, e_var, e_bor, e_iou, e_mov, e_frz, frz_some, e_cst, e_glb, e_flat, e_op1, e_op2, e_chn, chn_b, e_and, e_or, e_ife, lst_l, e_tup, e_lst, e_nil, e_cons, e_sub, e_key, e_slc, e_nop, e_rev, e_blt, e_call, it_l, it_t, e_comp, e_val, int_i, e_rng1, e_rng2, zip_l, zip_t, e_zip, e_pop, e_dsp, t_b, t_i, o_neg, o_not, o_add, o_sub, o_mul, o_fdv, o_mod, o_pow, o_lt, o_le, o_gt, o_ge, o_eq, o_ne, o_addL, o_inn, o_nin, o_isn, o_isnn, o_subL, o_subT, o_len, o_lenT, o_tupl, o_list, o_int, o_abs, o_max, o_min, o_gcd, o_sum, o_all, o_any, rb, eqvS, rf_nil, rf_none, rf_some, p_nil, p_none, p_some, a_nm, a_tup, a_nil, a_cons, s_skp, then_nx, then_rt, then_bk, then_ct, s_seq, s_asg, s_fre, s_par, ps_nil, ps_cons, s_exp, s_ret, s_rtn, s_ifs, s_lop, s_brk, s_cnt, s_nvr, s_app, s_set, s_setK, c_lst, ap_lst, si_lst, end_nx, end_rt, oo_nil, oo_0, oo_s, dk_c, dk_m, dk_d, dk_set, dk_can, dk_app, permL, List.filterMap_cons, List.filterMap_nil, List.getElem?_cons_zero, List.getElem?_cons_succ, List.cons_append, List.nil_append, List.append_nil, at0, at1, at2, isi_int, isi_bool, isi_tup, eqvI, Option.some.injEq, exists_eq_left', true_and, and_true, wipeR, Bool.not_true, Bool.not_false, forall_const, List.map_cons, List.map_nil, reduceCtorEq, false_implies, implies_true, true_implies, Bool.true_eq_false, Bool.false_eq_true, eq_self, o_slc, i2_nh]
  refine ⟨by decide, ?_⟩
  refine loop_inv (I := fun i ρ => ∃ (s12 s14 : Slot) (d' : PyData), ρ = [some (0, .list (eI ns)), some (2, d'), some (0, .list (eP L)), some (0, .int n), some (0, .int (per L)), some (0, .tuple (eI c)), some (0, .tuple (eI x)), some (0, .int r), some (0, stripe (per L) c r), some (0, .int u), some (0, stripe (per L) c2 r2), s11, s12, none, s14, none, none, none, none, none, none, none] ∧ Deck (5000 + 5000 * i) d') (rangeD 0 3) 0 (fun i dd ρ hdd hI => ?_) ⟨none, none, d6, rfl, hd6.mono (by omega)⟩ (fun ρ' hI => ?_)
  · obtain ⟨rfl, hi⟩ := range_get hdd
    rw [Nat.zero_add] at hI ⊢
    obtain ⟨s12, s14, d7, rfl, hd7⟩ := hI
    simp only [loopB_sat, b_law_8b, s_law_8b_0, sOk, sat_bad, own_c0, own_cs, set_c0, set_cs, getS_c0, getS_cs, e_var, e_bor, e_iou, e_mov, e_frz, frz_some, e_cst, e_glb, e_flat, e_op1, e_op2, e_chn, chn_b, e_and, e_or, e_ife, lst_l, e_tup, e_lst, e_nil, e_cons, e_sub, e_key, e_slc, e_nop, e_rev, e_blt, e_call, it_l, it_t, e_comp, e_val, int_i, e_rng1, e_rng2, zip_l, zip_t, e_zip, e_pop, e_dsp, t_b, t_i, o_neg, o_not, o_add, o_sub, o_mul, o_fdv, o_mod, o_pow, o_lt, o_le, o_gt, o_ge, o_eq, o_ne, o_addL, o_inn, o_nin, o_isn, o_isnn, o_subL, o_subT, o_len, o_lenT, o_tupl, o_list, o_int, o_abs, o_max, o_min, o_gcd, o_sum, o_all, o_any, rb, eqvS, rf_nil, rf_none, rf_some, p_nil, p_none, p_some, a_nm, a_tup, a_nil, a_cons, s_skp, then_nx, then_rt, then_bk, then_ct, s_seq, s_asg, s_fre, s_par, ps_nil, ps_cons, s_exp, s_ret, s_rtn, s_ifs, s_lop, s_brk, s_cnt, s_nvr, s_app, s_set, s_setK, c_lst, ap_lst, si_lst, end_nx, end_rt, oo_nil, oo_0, oo_s, dk_c, dk_m, dk_d, dk_set, dk_can, dk_app, permL, List.filterMap_cons, List.filterMap_nil, List.getElem?_cons_zero, List.getElem?_cons_succ, List.cons_append, List.nil_append, List.append_nil, at0, at1, at2, isi_int, isi_bool, isi_tup, eqvI, Option.some.injEq, exists_eq_left', true_and, and_true, wipeR, Bool.not_true, Bool.not_false, forall_const, List.map_cons, List.map_nil, reduceCtorEq, false_implies, implies_true, true_implies, Bool.true_eq_false, Bool.false_eq_true, eq_self, o_slc, i2_nh]
    refine sat_imp (hSt _ d7 L n P n3 hd7 (by omega)) ?_
    rintro _ ⟨t, d8, rfl, hlt, hbt, hd8⟩
    simp only [sOk, sat_bad, own_c0, own_cs, set_c0, set_cs, getS_c0, getS_cs, e_var, e_bor, e_iou, e_mov, e_frz, frz_some, e_cst, e_glb, e_flat, e_op1, e_op2, e_chn, chn_b, e_and, e_or, e_ife, lst_l, e_tup, e_lst, e_nil, e_cons, e_sub, e_key, e_slc, e_nop, e_rev, e_blt, e_call, it_l, it_t, e_comp, e_val, int_i, e_rng1, e_rng2, zip_l, zip_t, e_zip, e_pop, e_dsp, t_b, t_i, o_neg, o_not, o_add, o_sub, o_mul, o_fdv, o_mod, o_pow, o_lt, o_le, o_gt, o_ge, o_eq, o_ne, o_addL, o_inn, o_nin, o_isn, o_isnn, o_subL, o_subT, o_len, o_lenT, o_tupl, o_list, o_int, o_abs, o_max, o_min, o_gcd, o_sum, o_all, o_any, rb, eqvS, rf_nil, rf_none, rf_some, p_nil, p_none, p_some, a_nm, a_tup, a_nil, a_cons, s_skp, then_nx, then_rt, then_bk, then_ct, s_seq, s_asg, s_fre, s_par, ps_nil, ps_cons, s_exp, s_ret, s_rtn, s_ifs, s_lop, s_brk, s_cnt, s_nvr, s_app, s_set, s_setK, c_lst, ap_lst, si_lst, end_nx, end_rt, oo_nil, oo_0, oo_s, dk_c, dk_m, dk_d, dk_set, dk_can, dk_app, permL, List.filterMap_cons, List.filterMap_nil, List.getElem?_cons_zero, List.getElem?_cons_succ, List.cons_append, List.nil_append, List.append_nil, at0, at1, at2, isi_int, isi_bool, isi_tup, eqvI, Option.some.injEq, exists_eq_left', true_and, and_true, wipeR, Bool.not_true, Bool.not_false, forall_const, List.map_cons, List.map_nil, reduceCtorEq, false_implies, implies_true, true_implies, Bool.true_eq_false, Bool.false_eq_true, eq_self, o_slc, i2_nh]
    simp only [s_law_8b_1, sOk, sat_bad, own_c0, own_cs, set_c0, set_cs, getS_c0, getS_cs, e_var, e_bor, e_iou, e_mov, e_frz, frz_some, e_cst, e_glb, e_flat, e_op1, e_op2, e_chn, chn_b, e_and, e_or, e_ife, lst_l, e_tup, e_lst, e_nil, e_cons, e_sub, e_key, e_slc, e_nop, e_rev, e_blt, e_call, it_l, it_t, e_comp, e_val, int_i, e_rng1, e_rng2, zip_l, zip_t, e_zip, e_pop, e_dsp, t_b, t_i, o_neg, o_not, o_add, o_sub, o_mul, o_fdv, o_mod, o_pow, o_lt, o_le, o_gt, o_ge, o_eq, o_ne, o_addL, o_inn, o_nin, o_isn, o_isnn, o_subL, o_subT, o_len, o_lenT, o_tupl, o_list, o_int, o_abs, o_max, o_min, o_gcd, o_sum, o_all, o_any, rb, eqvS, rf_nil, rf_none, rf_some, p_nil, p_none, p_some, a_nm, a_tup, a_nil, a_cons, s_skp, then_nx, then_rt, then_bk, then_ct, s_seq, s_asg, s_fre, s_par, ps_nil, ps_cons, s_exp, s_ret, s_rtn, s_ifs, s_lop, s_brk, s_cnt, s_nvr, s_app, s_set, s_setK, c_lst, ap_lst, si_lst, end_nx, end_rt, oo_nil, oo_0, oo_s, dk_c, dk_m, dk_d, dk_set, dk_can, dk_app, permL, List.filterMap_cons, List.filterMap_nil, List.getElem?_cons_zero, List.getElem?_cons_succ, List.cons_append, List.nil_append, List.append_nil, at0, at1, at2, isi_int, isi_bool, isi_tup, eqvI, Option.some.injEq, exists_eq_left', true_and, and_true, wipeR, Bool.not_true, Bool.not_false, forall_const, List.map_cons, List.map_nil, reduceCtorEq, false_implies, implies_true, true_implies, Bool.true_eq_false, Bool.false_eq_true, eq_self, o_slc, i2_nh]
    refine sat_imp (hCo _ d8 L c r x t P v r0 r1 hlx (by omega) hbx hbt on hd8 (by omega)) ?_
    rintro _ ⟨d9, rfl, hd9⟩
    simp only [sOk, sat_bad, own_c0, own_cs, set_c0, set_cs, getS_c0, getS_cs, e_var, e_bor, e_iou, e_mov, e_frz, frz_some, e_cst, e_glb, e_flat, e_op1, e_op2, e_chn, chn_b, e_and, e_or, e_ife, lst_l, e_tup, e_lst, e_nil, e_cons, e_sub, e_key, e_slc, e_nop, e_rev, e_blt, e_call, it_l, it_t, e_comp, e_val, int_i, e_rng1, e_rng2, zip_l, zip_t, e_zip, e_pop, e_dsp, t_b, t_i, o_neg, o_not, o_add, o_sub, o_mul, o_fdv, o_mod, o_pow, o_lt, o_le, o_gt, o_ge, o_eq, o_ne, o_addL, o_inn, o_nin, o_isn, o_isnn, o_subL, o_subT, o_len, o_lenT, o_tupl, o_list, o_int, o_abs, o_max, o_min, o_gcd, o_sum, o_all, o_any, rb, eqvS, rf_nil, rf_none, rf_some, p_nil, p_none, p_some, a_nm, a_tup, a_nil, a_cons, s_skp, then_nx, then_rt, then_bk, then_ct, s_seq, s_asg, s_fre, s_par, ps_nil, ps_cons, s_exp, s_ret, s_rtn, s_ifs, s_lop, s_brk, s_cnt, s_nvr, s_app, s_set, s_setK, c_lst, ap_lst, si_lst, end_nx, end_rt, oo_nil, oo_0, oo_s, dk_c, dk_m, dk_d, dk_set, dk_can, dk_app, permL, List.filterMap_cons, List.filterMap_nil, List.getElem?_cons_zero, List.getElem?_cons_succ, List.cons_append, List.nil_append, List.append_nil, at0, at1, at2, isi_int, isi_bool, isi_tup, eqvI, Option.some.injEq, exists_eq_left', true_and, and_true, wipeR, Bool.not_true, Bool.not_false, forall_const, List.map_cons, List.map_nil, reduceCtorEq, false_implies, implies_true, true_implies, Bool.true_eq_false, Bool.false_eq_true, eq_self, o_slc, i2_nh]
    refine sat_imp (hCo _ d9 L c2 r2 x t P v2 q0 q1 (by omega) (by omega) hbx hbt on2 hd9 (by omega)) ?_
    rintro _ ⟨d10, rfl, hd10⟩
    simp only [sOk, sat_bad, own_c0, own_cs, set_c0, set_cs, getS_c0, getS_cs, e_var, e_bor, e_iou, e_mov, e_frz, frz_some, e_cst, e_glb, e_flat, e_op1, e_op2, e_chn, chn_b, e_and, e_or, e_ife, lst_l, e_tup, e_lst, e_nil, e_cons, e_sub, e_key, e_slc, e_nop, e_rev, e_blt, e_call, it_l, it_t, e_comp, e_val, int_i, e_rng1, e_rng2, zip_l, zip_t, e_zip, e_pop, e_dsp, t_b, t_i, o_neg, o_not, o_add, o_sub, o_mul, o_fdv, o_mod, o_pow, o_lt, o_le, o_gt, o_ge, o_eq, o_ne, o_addL, o_inn, o_nin, o_isn, o_isnn, o_subL, o_subT, o_len, o_lenT, o_tupl, o_list, o_int, o_abs, o_max, o_min, o_gcd, o_sum, o_all, o_any, rb, eqvS, rf_nil, rf_none, rf_some, p_nil, p_none, p_some, a_nm, a_tup, a_nil, a_cons, s_skp, then_nx, then_rt, then_bk, then_ct, s_seq, s_asg, s_fre, s_par, ps_nil, ps_cons, s_exp, s_ret, s_rtn, s_ifs, s_lop, s_brk, s_cnt, s_nvr, s_app, s_set, s_setK, c_lst, ap_lst, si_lst, end_nx, end_rt, oo_nil, oo_0, oo_s, dk_c, dk_m, dk_d, dk_set, dk_can, dk_app, permL, List.filterMap_cons, List.filterMap_nil, List.getElem?_cons_zero, List.getElem?_cons_succ, List.cons_append, List.nil_append, List.append_nil, at0, at1, at2, isi_int, isi_bool, isi_tup, eqvI, Option.some.injEq, exists_eq_left', true_and, and_true, wipeR, Bool.not_true, Bool.not_false, forall_const, List.map_cons, List.map_nil, reduceCtorEq, false_implies, implies_true, true_implies, Bool.true_eq_false, Bool.false_eq_true, eq_self, o_slc, i2_nh]
    simp only [s_law_8b_2, sOk, sat_bad, own_c0, own_cs, set_c0, set_cs, getS_c0, getS_cs, e_var, e_bor, e_iou, e_mov, e_frz, frz_some, e_cst, e_glb, e_flat, e_op1, e_op2, e_chn, chn_b, e_and, e_or, e_ife, lst_l, e_tup, e_lst, e_nil, e_cons, e_sub, e_key, e_slc, e_nop, e_rev, e_blt, e_call, it_l, it_t, e_comp, e_val, int_i, e_rng1, e_rng2, zip_l, zip_t, e_zip, e_pop, e_dsp, t_b, t_i, o_neg, o_not, o_add, o_sub, o_mul, o_fdv, o_mod, o_pow, o_lt, o_le, o_gt, o_ge, o_eq, o_ne, o_addL, o_inn, o_nin, o_isn, o_isnn, o_subL, o_subT, o_len, o_lenT, o_tupl, o_list, o_int, o_abs, o_max, o_min, o_gcd, o_sum, o_all, o_any, rb, eqvS, rf_nil, rf_none, rf_some, p_nil, p_none, p_some, a_nm, a_tup, a_nil, a_cons, s_skp, then_nx, then_rt, then_bk, then_ct, s_seq, s_asg, s_fre, s_par, ps_nil, ps_cons, s_exp, s_ret, s_rtn, s_ifs, s_lop, s_brk, s_cnt, s_nvr, s_app, s_set, s_setK, c_lst, ap_lst, si_lst, end_nx, end_rt, oo_nil, oo_0, oo_s, dk_c, dk_m, dk_d, dk_set, dk_can, dk_app, permL, List.filterMap_cons, List.filterMap_nil, List.getElem?_cons_zero, List.getElem?_cons_succ, List.cons_append, List.nil_append, List.append_nil, at0, at1, at2, isi_int, isi_bool, isi_tup, eqvI, Option.some.injEq, exists_eq_left', true_and, and_true, wipeR, Bool.not_true, Bool.not_false, forall_const, List.map_cons, List.map_nil, reduceCtorEq, false_implies, implies_true, true_implies, Bool.true_eq_false, Bool.false_eq_true, eq_self, o_slc, i2_nh]
    refine sat_imp (hPa _ d10 L c r x P v r0 r1 hlx hbx hd10 (by omega)) ?_
    rintro _ ⟨d11, rfl, hd11⟩
    simp only [sOk, sat_bad, own_c0, own_cs, set_c0, set_cs, getS_c0, getS_cs, e_var, e_bor, e_iou, e_mov, e_frz, frz_some, e_cst, e_glb, e_flat, e_op1, e_op2, e_chn, chn_b, e_and, e_or, e_ife, lst_l, e_tup, e_lst, e_nil, e_cons, e_sub, e_key, e_slc, e_nop, e_rev, e_blt, e_call, it_l, it_t, e_comp, e_val, int_i, e_rng1, e_rng2, zip_l, zip_t, e_zip, e_pop, e_dsp, t_b, t_i, o_neg, o_not, o_add, o_sub, o_mul, o_fdv, o_mod, o_pow, o_lt, o_le, o_gt, o_ge, o_eq, o_ne, o_addL, o_inn, o_nin, o_isn, o_isnn, o_subL, o_subT, o_len, o_lenT, o_tupl, o_list, o_int, o_abs, o_max, o_min, o_gcd, o_sum, o_all, o_any, rb, eqvS, rf_nil, rf_none, rf_some, p_nil, p_none, p_some, a_nm, a_tup, a_nil, a_cons, s_skp, then_nx, then_rt, then_bk, then_ct, s_seq, s_asg, s_fre, s_par, ps_nil, ps_cons, s_exp, s_ret, s_rtn, s_ifs, s_lop, s_brk, s_cnt, s_nvr, s_app, s_set, s_setK, c_lst, ap_lst, si_lst, end_nx, end_rt, oo_nil, oo_0, oo_s, dk_c, dk_m, dk_d, dk_set, dk_can, dk_app, permL, List.filterMap_cons, List.filterMap_nil, List.getElem?_cons_zero, List.getElem?_cons_succ, List.cons_append, List.nil_append, List.append_nil, at0, at1, at2, isi_int, isi_bool, isi_tup, eqvI, Option.some.injEq, exists_eq_left', true_and, and_true, wipeR, Bool.not_true, Bool.not_false, forall_const, List.map_cons, List.map_nil, reduceCtorEq, false_implies, implies_true, true_implies, Bool.true_eq_false, Bool.false_eq_true, eq_self, o_slc, i2_nh]
    refine sat_imp (hPa _ d11 L c2 r2 x P v2 q0 q1 (by omega) hbx hd11 (by omega)) ?_
    rintro _ ⟨d12, rfl, hd12⟩
    simp only [sOk, sat_bad, own_c0, own_cs, set_c0, set_cs, getS_c0, getS_cs, e_var, e_bor, e_iou, e_mov, e_frz, frz_some, e_cst, e_glb, e_flat, e_op1, e_op2, e_chn, chn_b, e_and, e_or, e_ife, lst_l, e_tup, e_lst, e_nil, e_cons, e_sub, e_key, e_slc, e_nop, e_rev, e_blt, e_call, it_l, it_t, e_comp, e_val, int_i, e_rng1, e_rng2, zip_l, zip_t, e_zip, e_pop, e_dsp, t_b, t_i, o_neg, o_not, o_add, o_sub, o_mul, o_fdv, o_mod, o_pow, o_lt, o_le, o_gt, o_ge, o_eq, o_ne, o_addL, o_inn, o_nin, o_isn, o_isnn, o_subL, o_subT, o_len, o_lenT, o_tupl, o_list, o_int, o_abs, o_max, o_min, o_gcd, o_sum, o_all, o_any, rb, eqvS, rf_nil, rf_none, rf_some, p_nil, p_none, p_some, a_nm, a_tup, a_nil, a_cons, s_skp, then_nx, then_rt, then_bk, then_ct, s_seq, s_asg, s_fre, s_par, ps_nil, ps_cons, s_exp, s_ret, s_rtn, s_ifs, s_lop, s_brk, s_cnt, s_nvr, s_app, s_set, s_setK, c_lst, ap_lst, si_lst, end_nx, end_rt, oo_nil, oo_0, oo_s, dk_c, dk_m, dk_d, dk_set, dk_can, dk_app, permL, List.filterMap_cons, List.filterMap_nil, List.getElem?_cons_zero, List.getElem?_cons_succ, List.cons_append, List.nil_append, List.append_nil, at0, at1, at2, isi_int, isi_bool, isi_tup, eqvI, Option.some.injEq, exists_eq_left', true_and, and_true, wipeR, Bool.not_true, Bool.not_false, forall_const, List.map_cons, List.map_nil, reduceCtorEq, false_implies, implies_true, true_implies, Bool.true_eq_false, Bool.false_eq_true, eq_self, o_slc, i2_nh]
    exact ⟨.inl trivial, _, _, d12, rfl, hd12.mono (by omega)⟩
  obtain ⟨s12, s14, d7, rfl, hd7⟩ := hI
  have e3 : (rangeD 0 3).length = 3 := by rw [range_len]; rfl
  rw [e3] at hd7
  simp only [then_nx, s_seq, s_law_9, sOk, sat_bad, own_c0, own_cs, set_c0, set_cs, getS_c0, getS_cs, e_var, e_bor, e_iou, e_mov, e_frz, frz_some, e_cst, e_glb, e_flat, e_op1, e_op2, e_chn, chn_b, e_and, e_or, e_ife, lst_l, e_tup, e_lst, e_nil, e_cons, e_sub, e_key, e_slc, e_nop, e_rev, e_blt, e_call, it_l, it_t, e_comp, e_val, int_i, e_rng1, e_rng2, zip_l, zip_t, e_zip, e_pop, e_dsp, t_b, t_i, o_neg, o_not, o_add, o_sub, o_mul, o_fdv, o_mod, o_pow, o_lt, o_le, o_gt, o_ge, o_eq, o_ne, o_addL, o_inn, o_nin, o_isn, o_isnn, o_subL, o_subT, o_len, o_lenT, o_tupl, o_list, o_int, o_abs, o_max, o_min, o_gcd, o_sum, o_all, o_any, rb, eqvS, rf_nil, rf_none, rf_some, p_nil, p_none, p_some, a_nm, a_tup, a_nil, a_cons, s_skp, then_nx, then_rt, then_bk, then_ct, s_seq, s_asg, s_fre, s_par, ps_nil, ps_cons, s_exp, s_ret, s_rtn, s_ifs, s_lop, s_brk, s_cnt, s_nvr, s_app, s_set, s_setK, c_lst, ap_lst, si_lst, end_nx, end_rt, oo_nil, oo_0, oo_s, dk_c, dk_m, dk_d, dk_set, dk_can, dk_app, permL, List.filterMap_cons, List.filterMap_nil, List.getElem?_cons_zero, List.getElem?_cons_succ, List.cons_append, List.nil_append, List.append_nil, at0, at1, at2, isi_int, isi_bool, isi_tup, eqvI, Option.some.injEq, exists_eq_left', true_and, and_true, wipeR, Bool.not_true, Bool.not_false, forall_const, List.map_cons, List.map_nil, reduceCtorEq, false_implies, implies_true, true_implies, Bool.true_eq_false, Bool.false_eq_true, eq_self, o_slc, i2_nh]
  refine ⟨by unfold rngOk; exact decide_eq_true (by omega), ?_⟩
  refine loop_inv (I := fun i ρ => ∃ (s13 s14 s15 s16 s17 : Slot) (d' : PyData), ρ = [some (0, .list (eI ns)), some (2, d'), some (0, .list (eP L)), some (0, .int n), some (0, .int (per L)), some (0, .tuple (eI c)), some (0, .tuple (eI x)), some (0, .int r), some (0, stripe (per L) c r), some (0, .int u), some (0, stripe (per L) c2 r2), s11, s12, s13, s14, s15, s16, s17, none, none, none, none] ∧ Deck (20000 + 40 * i) d') (rangeD 0 n) 0 (fun i dd ρ hdd hI => ?_) ⟨none, s14, none, none, none, d7, rfl, hd7.mono (by omega)⟩ (fun ρ' hI => ?_)
  · obtain ⟨rfl, hi⟩ := range_get hdd
    rw [Nat.zero_add] at hI ⊢
    obtain ⟨s13, s14, s15, s16, s17, d8, rfl, hd8⟩ := hI
    simp only [loopB_sat, b_law_9b, s_law_9b_0, sOk, sat_bad, own_c0, own_cs, set_c0, set_cs, getS_c0, getS_cs, e_var, e_bor, e_iou, e_mov, e_frz, frz_some, e_cst, e_glb, e_flat, e_op1, e_op2, e_chn, chn_b, e_and, e_or, e_ife, lst_l, e_tup, e_lst, e_nil, e_cons, e_sub, e_key, e_slc, e_nop, e_rev, e_blt, e_call, it_l, it_t, e_comp, e_val, int_i, e_rng1, e_rng2, zip_l, zip_t, e_zip, e_pop, e_dsp, t_b, t_i, o_neg, o_not, o_add, o_sub, o_mul, o_fdv, o_mod, o_pow, o_lt, o_le, o_gt, o_ge, o_eq, o_ne, o_addL, o_inn, o_nin, o_isn, o_isnn, o_subL, o_subT, o_len, o_lenT, o_tupl, o_list, o_int, o_abs, o_max, o_min, o_gcd, o_sum, o_all, o_any, rb, eqvS, rf_nil, rf_none, rf_some, p_nil, p_none, p_some, a_nm, a_tup, a_nil, a_cons, s_skp, then_nx, then_rt, then_bk, then_ct, s_seq, s_asg, s_fre, s_par, ps_nil, ps_cons, s_exp, s_ret, s_rtn, s_ifs, s_lop, s_brk, s_cnt, s_nvr, s_app, s_set, s_setK, c_lst, ap_lst, si_lst, end_nx, end_rt, oo_nil, oo_0, oo_s, dk_c, dk_m, dk_d, dk_set, dk_can, dk_app, permL, List.filterMap_cons, List.filterMap_nil, List.getElem?_cons_zero, List.getElem?_cons_succ, List.cons_append, List.nil_append, List.append_nil, at0, at1, at2, isi_int, isi_bool, isi_tup, eqvI, Option.some.injEq, exists_eq_left', true_and, and_true, wipeR, Bool.not_true, Bool.not_false, forall_const, List.map_cons, List.map_nil, reduceCtorEq, false_implies, implies_true, true_implies, Bool.true_eq_false, Bool.false_eq_true, eq_self, o_slc, i2_nh, h15]
    refine sat_imp (hD _ d8 2 hd8 (by omega) (by omega) (by omega)) ?_
    rintro _ ⟨z, d9, rfl, z0, z1, hd9⟩
    simp only [sOk, sat_bad, own_c0, own_cs, set_c0, set_cs, getS_c0, getS_cs, e_var, e_bor, e_iou, e_mov, e_frz, frz_some, e_cst, e_glb, e_flat, e_op1, e_op2, e_chn, chn_b, e_and, e_or, e_ife, lst_l, e_tup, e_lst, e_nil, e_cons, e_sub, e_key, e_slc, e_nop, e_rev, e_blt, e_call, it_l, it_t, e_comp, e_val, int_i, e_rng1, e_rng2, zip_l, zip_t, e_zip, e_pop, e_dsp, t_b, t_i, o_neg, o_not, o_add, o_sub, o_mul, o_fdv, o_mod, o_pow, o_lt, o_le, o_gt, o_ge, o_eq, o_ne, o_addL, o_inn, o_nin, o_isn, o_isnn, o_subL, o_subT, o_len, o_lenT, o_tupl, o_list, o_int, o_abs, o_max, o_min, o_gcd, o_sum, o_all, o_any, rb, eqvS, rf_nil, rf_none, rf_some, p_nil, p_none, p_some, a_nm, a_tup, a_nil, a_cons, s_skp, then_nx, then_rt, then_bk, then_ct, s_seq, s_asg, s_fre, s_par, ps_nil, ps_cons, s_exp, s_ret, s_rtn, s_ifs, s_lop, s_brk, s_cnt, s_nvr, s_app, s_set, s_setK, c_lst, ap_lst, si_lst, end_nx, end_rt, oo_nil, oo_0, oo_s, dk_c, dk_m, dk_d, dk_set, dk_can, dk_app, permL, List.filterMap_cons, List.filterMap_nil, List.getElem?_cons_zero, List.getElem?_cons_succ, List.cons_append, List.nil_append, List.append_nil, at0, at1, at2, isi_int, isi_bool, isi_tup, eqvI, Option.some.injEq, exists_eq_left', true_and, and_true, wipeR, Bool.not_true, Bool.not_false, forall_const, List.map_cons, List.map_nil, reduceCtorEq, false_implies, implies_true, true_implies, Bool.true_eq_false, Bool.false_eq_true, eq_self, o_slc, i2_nh]
    refine ⟨by omega, by decide, ?_⟩
    refine sat_imp (hS _ d9 (10 ^ 15) hd9 (by omega) (by decide) (by decide)) ?_
    rintro _ ⟨w, d10, rfl, w0, w1, hd10⟩
    simp only [sOk, sat_bad, own_c0, own_cs, set_c0, set_cs, getS_c0, getS_cs, e_var, e_bor, e_iou, e_mov, e_frz, frz_some, e_cst, e_glb, e_flat, e_op1, e_op2, e_chn, chn_b, e_and, e_or, e_ife, lst_l, e_tup, e_lst, e_nil, e_cons, e_sub, e_key, e_slc, e_nop, e_rev, e_blt, e_call, it_l, it_t, e_comp, e_val, int_i, e_rng1, e_rng2, zip_l, zip_t, e_zip, e_pop, e_dsp, t_b, t_i, o_neg, o_not, o_add, o_sub, o_mul, o_fdv, o_mod, o_pow, o_lt, o_le, o_gt, o_ge, o_eq, o_ne, o_addL, o_inn, o_nin, o_isn, o_isnn, o_subL, o_subT, o_len, o_lenT, o_tupl, o_list, o_int, o_abs, o_max, o_min, o_gcd, o_sum, o_all, o_any, rb, eqvS, rf_nil, rf_none, rf_some, p_nil, p_none, p_some, a_nm, a_tup, a_nil, a_cons, s_skp, then_nx, then_rt, then_bk, then_ct, s_seq, s_asg, s_fre, s_par, ps_nil, ps_cons, s_exp, s_ret, s_rtn, s_ifs, s_lop, s_brk, s_cnt, s_nvr, s_app, s_set, s_setK, c_lst, ap_lst, si_lst, end_nx, end_rt, oo_nil, oo_0, oo_s, dk_c, dk_m, dk_d, dk_set, dk_can, dk_app, permL, List.filterMap_cons, List.filterMap_nil, List.getElem?_cons_zero, List.getElem?_cons_succ, List.cons_append, List.nil_append, List.append_nil, at0, at1, at2, isi_int, isi_bool, isi_tup, eqvI, Option.some.injEq, exists_eq_left', true_and, and_true, wipeR, Bool.not_true, Bool.not_false, forall_const, List.map_cons, List.map_nil, reduceCtorEq, false_implies, implies_true, true_implies, Bool.true_eq_false, Bool.false_eq_true, eq_self, o_slc, i2_nh]
    have hi' : i < c.length := by omega
    have hnr0 := Int.emod_nonneg (0 + (i : Int) + 1 + z) (b := (n : Int)) (by omega)
    have hnr1 := Int.emod_lt_of_pos (0 + (i : Int) + 1 + z) (b := (n : Int)) (by omega)
    have hnr : ∃ nr : Nat, (0 + (i : Int) + 1 + z) % (n : Int) = (nr : Int) ∧ nr < c.length := ⟨((0 + (i : Int) + 1 + z) % (n : Int)).toNat, by omega, by omega⟩
    obtain ⟨nr, enr, hnr⟩ := hnr
    have ei : (0 : Int) + (i : Int) = (i : Int) := by omega
    rw [enr, ei]
    simp only [s_law_9b_1, sOk, sat_bad, own_c0, own_cs, set_c0, set_cs, getS_c0, getS_cs, e_var, e_bor, e_iou, e_mov, e_frz, frz_some, e_cst, e_glb, e_flat, e_op1, e_op2, e_chn, chn_b, e_and, e_or, e_ife, lst_l, e_tup, e_lst, e_nil, e_cons, e_sub, e_key, e_slc, e_nop, e_rev, e_blt, e_call, it_l, it_t, e_comp, e_val, int_i, e_rng1, e_rng2, zip_l, zip_t, e_zip, e_pop, e_dsp, t_b, t_i, o_neg, o_not, o_add, o_sub, o_mul, o_fdv, o_mod, o_pow, o_lt, o_le, o_gt, o_ge, o_eq, o_ne, o_addL, o_inn, o_nin, o_isn, o_isnn, o_subL, o_subT, o_len, o_lenT, o_tupl, o_list, o_int, o_abs, o_max, o_min, o_gcd, o_sum, o_all, o_any, rb, eqvS, rf_nil, rf_none, rf_some, p_nil, p_none, p_some, a_nm, a_tup, a_nil, a_cons, s_skp, then_nx, then_rt, then_bk, then_ct, s_seq, s_asg, s_fre, s_par, ps_nil, ps_cons, s_exp, s_ret, s_rtn, s_ifs, s_lop, s_brk, s_cnt, s_nvr, s_app, s_set, s_setK, c_lst, ap_lst, si_lst, end_nx, end_rt, oo_nil, oo_0, oo_s, dk_c, dk_m, dk_d, dk_set, dk_can, dk_app, permL, List.filterMap_cons, List.filterMap_nil, List.getElem?_cons_zero, List.getElem?_cons_succ, List.cons_append, List.nil_append, List.append_nil, at0, at1, at2, isi_int, isi_bool, isi_tup, eqvI, Option.some.injEq, exists_eq_left', true_and, and_true, wipeR, Bool.not_true, Bool.not_false, forall_const, List.map_cons, List.map_nil, reduceCtorEq, false_implies, implies_true, true_implies, Bool.true_eq_false, Bool.false_eq_true, eq_self, o_slc, i2_nh]
    refine ⟨⟨rfl, rfl⟩, fun h => ?_, fun h => ⟨.inl trivial, _, _, _, _, _, d10, rfl, hd10.mono (by omega)⟩⟩
    have hne : nr ≠ i := fun e => by
      subst e
      simp at h
    simp only [b_law_9b_1t, s_law_9b_1t_0, sOk, sat_bad, own_c0, own_cs, set_c0, set_cs, getS_c0, getS_cs, e_var, e_bor, e_iou, e_mov, e_frz, frz_some, e_cst, e_glb, e_flat, e_op1, e_op2, e_chn, chn_b, e_and, e_or, e_ife, lst_l, e_tup, e_lst, e_nil, e_cons, e_sub, e_key, e_slc, e_nop, e_rev, e_blt, e_call, it_l, it_t, e_comp, e_val, int_i, e_rng1, e_rng2, zip_l, zip_t, e_zip, e_pop, e_dsp, t_b, t_i, o_neg, o_not, o_add, o_sub, o_mul, o_fdv, o_mod, o_pow, o_lt, o_le, o_gt, o_ge, o_eq, o_ne, o_addL, o_inn, o_nin, o_isn, o_isnn, o_subL, o_subT, o_len, o_lenT, o_tupl, o_list, o_int, o_abs, o_max, o_min, o_gcd, o_sum, o_all, o_any, rb, eqvS, rf_nil, rf_none, rf_some, p_nil, p_none, p_some, a_nm, a_tup, a_nil, a_cons, s_skp, then_nx, then_rt, then_bk, then_ct, s_seq, s_asg, s_fre, s_par, ps_nil, ps_cons, s_exp, s_ret, s_rtn, s_ifs, s_lop, s_brk, s_cnt, s_nvr, s_app, s_set, s_setK, c_lst, ap_lst, si_lst, end_nx, end_rt, oo_nil, oo_0, oo_s, dk_c, dk_m, dk_d, dk_set, dk_can, dk_app, permL, List.filterMap_cons, List.filterMap_nil, List.getElem?_cons_zero, List.getElem?_cons_succ, List.cons_append, List.nil_append, List.append_nil, at0, at1, at2, isi_int, isi_bool, isi_tup, eqvI, Option.some.injEq, exists_eq_left', true_and, and_true, wipeR, Bool.not_true, Bool.not_false, forall_const, List.map_cons, List.map_nil, reduceCtorEq, false_implies, implies_true, true_implies, Bool.true_eq_false, Bool.false_eq_true, eq_self, o_slc, i2_nh]
    refine ⟨by unfold rngOk; exact decide_eq_true (by omega), ⟨rfl, by rw [range_len]; omega⟩, ?_⟩
    have hrange : rangeD 0 n = (List.range c.length).map fun k : Nat => .int ((0 : Int) + (k : Int)) := by
      unfold rangeD
      rw [show ((n : Int) - 0).toNat = c.length by omega]
    rw [hrange]
    refine cmap (fun k : Nat => .int ((0 : Int) + (k : Int))) (fun k => .int (if k = i then c.getD nr 0 else if k = nr then -(c.getD i 0) else 0)) (List.range c.length) (fun k hk => ?_) ?_
    · simp only [compB_sat, sOk, sat_bad, own_c0, own_cs, set_c0, set_cs, getS_c0, getS_cs, e_var, e_bor, e_iou, e_mov, e_frz, frz_some, e_cst, e_glb, e_flat, e_op1, e_op2, e_chn, chn_b, e_and, e_or, e_ife, lst_l, e_tup, e_lst, e_nil, e_cons, e_sub, e_key, e_slc, e_nop, e_rev, e_blt, e_call, it_l, it_t, e_comp, e_val, int_i, e_rng1, e_rng2, zip_l, zip_t, e_zip, e_pop, e_dsp, t_b, t_i, o_neg, o_not, o_add, o_sub, o_mul, o_fdv, o_mod, o_pow, o_lt, o_le, o_gt, o_ge, o_eq, o_ne, o_addL, o_inn, o_nin, o_isn, o_isnn, o_subL, o_subT, o_len, o_lenT, o_tupl, o_list, o_int, o_abs, o_max, o_min, o_gcd, o_sum, o_all, o_any, rb, eqvS, rf_nil, rf_none, rf_some, p_nil, p_none, p_some, a_nm, a_tup, a_nil, a_cons, s_skp, then_nx, then_rt, then_bk, then_ct, s_seq, s_asg, s_fre, s_par, ps_nil, ps_cons, s_exp, s_ret, s_rtn, s_ifs, s_lop, s_brk, s_cnt, s_nvr, s_app, s_set, s_setK, c_lst, ap_lst, si_lst, end_nx, end_rt, oo_nil, oo_0, oo_s, dk_c, dk_m, dk_d, dk_set, dk_can, dk_app, permL, List.filterMap_cons, List.filterMap_nil, List.getElem?_cons_zero, List.getElem?_cons_succ, List.cons_append, List.nil_append, List.append_nil, at0, at1, at2, isi_int, isi_bool, isi_tup, eqvI, Option.some.injEq, exists_eq_left', true_and, and_true, wipeR, Bool.not_true, Bool.not_false, forall_const, List.map_cons, List.map_nil, reduceCtorEq, false_implies, implies_true, true_implies, Bool.true_eq_false, Bool.false_eq_true, eq_self, o_slc, i2_nh, atI_D hnr, atI_D hi']
      refine ⟨⟨rfl, rfl⟩, fun h => ?_, fun h => ⟨⟨rfl, rfl⟩, fun h2 => ?_, fun h2 => ?_⟩⟩
      · have := of_decide_eq_true h
        rw [if_pos (by omega)]
      · have h := of_decide_eq_false h
        have h2 := of_decide_eq_true h2
        rw [if_neg (by omega), if_pos (by omega)]
      · have h := of_decide_eq_false h
        have h2 := of_decide_eq_false h2
        rw [if_neg (by omega), if_neg (by omega)]
    have e4 : (List.range c.length).map (fun k => PyData.int (if k = i then c.getD nr 0 else if k = nr then -(c.getD i 0) else 0)) = eI (tT c i nr) := by
      unfold tT
      rw [eI, List.map_map]
      rfl
    rw [e4]
    have hT0 := dotT (c := c) (at_ := i) (near := nr) v.len.2 hi' hnr hne
    have hTl : (tT c i nr).length = c.length := tT_len
    have hTb := tT_bd (c := c) (i := i) (j := nr) (B := 10 ^ 40) (by decide) fun a ha => by have := v.rng a ha; omega
    generalize hTT : tT c i nr = t at *
    have hbt : BdT t := fun a ha => by have := hTb a ha; omega
    simp only [sOk, sat_bad, own_c0, own_cs, set_c0, set_cs, getS_c0, getS_cs, e_var, e_bor, e_iou, e_mov, e_frz, frz_some, e_cst, e_glb, e_flat, e_op1, e_op2, e_chn, chn_b, e_and, e_or, e_ife, lst_l, e_tup, e_lst, e_nil, e_cons, e_sub, e_key, e_slc, e_nop, e_rev, e_blt, e_call, it_l, it_t, e_comp, e_val, int_i, e_rng1, e_rng2, zip_l, zip_t, e_zip, e_pop, e_dsp, t_b, t_i, o_neg, o_not, o_add, o_sub, o_mul, o_fdv, o_mod, o_pow, o_lt, o_le, o_gt, o_ge, o_eq, o_ne, o_addL, o_inn, o_nin, o_isn, o_isnn, o_subL, o_subT, o_len, o_lenT, o_tupl, o_list, o_int, o_abs, o_max, o_min, o_gcd, o_sum, o_all, o_any, rb, eqvS, rf_nil, rf_none, rf_some, p_nil, p_none, p_some, a_nm, a_tup, a_nil, a_cons, s_skp, then_nx, then_rt, then_bk, then_ct, s_seq, s_asg, s_fre, s_par, ps_nil, ps_cons, s_exp, s_ret, s_rtn, s_ifs, s_lop, s_brk, s_cnt, s_nvr, s_app, s_set, s_setK, c_lst, ap_lst, si_lst, end_nx, end_rt, oo_nil, oo_0, oo_s, dk_c, dk_m, dk_d, dk_set, dk_can, dk_app, permL, List.filterMap_cons, List.filterMap_nil, List.getElem?_cons_zero, List.getElem?_cons_succ, List.cons_append, List.nil_append, List.append_nil, at0, at1, at2, isi_int, isi_bool, isi_tup, eqvI, Option.some.injEq, exists_eq_left', true_and, and_true, wipeR, Bool.not_true, Bool.not_false, forall_const, List.map_cons, List.map_nil, reduceCtorEq, false_implies, implies_true, true_implies, Bool.true_eq_false, Bool.false_eq_true, eq_self, o_slc, i2_nh]
    simp only [s_law_9b_1t_1, sOk, sat_bad, own_c0, own_cs, set_c0, set_cs, getS_c0, getS_cs, e_var, e_bor, e_iou, e_mov, e_frz, frz_some, e_cst, e_glb, e_flat, e_op1, e_op2, e_chn, chn_b, e_and, e_or, e_ife, lst_l, e_tup, e_lst, e_nil, e_cons, e_sub, e_key, e_slc, e_nop, e_rev, e_blt, e_call, it_l, it_t, e_comp, e_val, int_i, e_rng1, e_rng2, zip_l, zip_t, e_zip, e_pop, e_dsp, t_b, t_i, o_neg, o_not, o_add, o_sub, o_mul, o_fdv, o_mod, o_pow, o_lt, o_le, o_gt, o_ge, o_eq, o_ne, o_addL, o_inn, o_nin, o_isn, o_isnn, o_subL, o_subT, o_len, o_lenT, o_tupl, o_list, o_int, o_abs, o_max, o_min, o_gcd, o_sum, o_all, o_any, rb, eqvS, rf_nil, rf_none, rf_some, p_nil, p_none, p_some, a_nm, a_tup, a_nil, a_cons, s_skp, then_nx, then_rt, then_bk, then_ct, s_seq, s_asg, s_fre, s_par, ps_nil, ps_cons, s_exp, s_ret, s_rtn, s_ifs, s_lop, s_brk, s_cnt, s_nvr, s_app, s_set, s_setK, c_lst, ap_lst, si_lst, end_nx, end_rt, oo_nil, oo_0, oo_s, dk_c, dk_m, dk_d, dk_set, dk_can, dk_app, permL, List.filterMap_cons, List.filterMap_nil, List.getElem?_cons_zero, List.getElem?_cons_succ, List.cons_append, List.nil_append, List.append_nil, at0, at1, at2, isi_int, isi_bool, isi_tup, eqvI, Option.some.injEq, exists_eq_left', true_and, and_true, wipeR, Bool.not_true, Bool.not_false, forall_const, List.map_cons, List.map_nil, reduceCtorEq, false_implies, implies_true, true_implies, Bool.true_eq_false, Bool.false_eq_true, eq_self, o_slc, i2_nh]
    refine sat_imp (hM x t w (by omega) (fun a ha => by have := hTb a ha; omega) (by omega)) ?_
    rintro _ rfl
    simp only [sOk, sat_bad, own_c0, own_cs, set_c0, set_cs, getS_c0, getS_cs, e_var, e_bor, e_iou, e_mov, e_frz, frz_some, e_cst, e_glb, e_flat, e_op1, e_op2, e_chn, chn_b, e_and, e_or, e_ife, lst_l, e_tup, e_lst, e_nil, e_cons, e_sub, e_key, e_slc, e_nop, e_rev, e_blt, e_call, it_l, it_t, e_comp, e_val, int_i, e_rng1, e_rng2, zip_l, zip_t, e_zip, e_pop, e_dsp, t_b, t_i, o_neg, o_not, o_add, o_sub, o_mul, o_fdv, o_mod, o_pow, o_lt, o_le, o_gt, o_ge, o_eq, o_ne, o_addL, o_inn, o_nin, o_isn, o_isnn, o_subL, o_subT, o_len, o_lenT, o_tupl, o_list, o_int, o_abs, o_max, o_min, o_gcd, o_sum, o_all, o_any, rb, eqvS, rf_nil, rf_none, rf_some, p_nil, p_none, p_some, a_nm, a_tup, a_nil, a_cons, s_skp, then_nx, then_rt, then_bk, then_ct, s_seq, s_asg, s_fre, s_par, ps_nil, ps_cons, s_exp, s_ret, s_rtn, s_ifs, s_lop, s_brk, s_cnt, s_nvr, s_app, s_set, s_setK, c_lst, ap_lst, si_lst, end_nx, end_rt, oo_nil, oo_0, oo_s, dk_c, dk_m, dk_d, dk_set, dk_can, dk_app, permL, List.filterMap_cons, List.filterMap_nil, List.getElem?_cons_zero, List.getElem?_cons_succ, List.cons_append, List.nil_append, List.append_nil, at0, at1, at2, isi_int, isi_bool, isi_tup, eqvI, Option.some.injEq, exists_eq_left', true_and, and_true, wipeR, Bool.not_true, Bool.not_false, forall_const, List.map_cons, List.map_nil, reduceCtorEq, false_implies, implies_true, true_implies, Bool.true_eq_false, Bool.false_eq_true, eq_self, o_slc, i2_nh]
    have hly : (mv x t w).length = c.length := (mv_len (by omega)).trans hlx
    have hby : Bd (mv x t w) := mv_bd hbx hbt (by omega)
    have o1 : (dot c (mv x t w) - r) % (per L : Int) = 0 := by
      rw [dot_mv w hlx hTl, hT0, Int.mul_zero, Int.add_zero]
      exact on
    have o2 : (dot c2 (mv x t w) - r2) % (per L : Int) = 0 := by
      have h1 := like t
      rw [hT0, Int.mul_zero, Int.sub_zero] at h1
      rw [dot_mv w (by omega) (by omega)]
      refine Int.emod_eq_zero_of_dvd ?_
      have e5 : dot c2 x + w * dot c2 t - r2 = (dot c2 x - r2) + w * dot c2 t := by omega
      rw [e5]
      exact Int.dvd_add (Int.dvd_of_emod_eq_zero on2) (Int.dvd_trans h1 (Int.dvd_mul_left _ _))
    simp only [s_law_9b_1t_2, sOk, sat_bad, own_c0, own_cs, set_c0, set_cs, getS_c0, getS_cs, e_var, e_bor, e_iou, e_mov, e_frz, frz_some, e_cst, e_glb, e_flat, e_op1, e_op2, e_chn, chn_b, e_and, e_or, e_ife, lst_l, e_tup, e_lst, e_nil, e_cons, e_sub, e_key, e_slc, e_nop, e_rev, e_blt, e_call, it_l, it_t, e_comp, e_val, int_i, e_rng1, e_rng2, zip_l, zip_t, e_zip, e_pop, e_dsp, t_b, t_i, o_neg, o_not, o_add, o_sub, o_mul, o_fdv, o_mod, o_pow, o_lt, o_le, o_gt, o_ge, o_eq, o_ne, o_addL, o_inn, o_nin, o_isn, o_isnn, o_subL, o_subT, o_len, o_lenT, o_tupl, o_list, o_int, o_abs, o_max, o_min, o_gcd, o_sum, o_all, o_any, rb, eqvS, rf_nil, rf_none, rf_some, p_nil, p_none, p_some, a_nm, a_tup, a_nil, a_cons, s_skp, then_nx, then_rt, then_bk, then_ct, s_seq, s_asg, s_fre, s_par, ps_nil, ps_cons, s_exp, s_ret, s_rtn, s_ifs, s_lop, s_brk, s_cnt, s_nvr, s_app, s_set, s_setK, c_lst, ap_lst, si_lst, end_nx, end_rt, oo_nil, oo_0, oo_s, dk_c, dk_m, dk_d, dk_set, dk_can, dk_app, permL, List.filterMap_cons, List.filterMap_nil, List.getElem?_cons_zero, List.getElem?_cons_succ, List.cons_append, List.nil_append, List.append_nil, at0, at1, at2, isi_int, isi_bool, isi_tup, eqvI, Option.some.injEq, exists_eq_left', true_and, and_true, wipeR, Bool.not_true, Bool.not_false, forall_const, List.map_cons, List.map_nil, reduceCtorEq, false_implies, implies_true, true_implies, Bool.true_eq_false, Bool.false_eq_true, eq_self, o_slc, i2_nh]
    refine sat_imp (hU L c r (mv x t w) true P v r0 r1 hly hby ⟨fun _ => o1, fun _ => rfl⟩) ?_
    rintro _ rfl
    simp only [sOk, sat_bad, own_c0, own_cs, set_c0, set_cs, getS_c0, getS_cs, e_var, e_bor, e_iou, e_mov, e_frz, frz_some, e_cst, e_glb, e_flat, e_op1, e_op2, e_chn, chn_b, e_and, e_or, e_ife, lst_l, e_tup, e_lst, e_nil, e_cons, e_sub, e_key, e_slc, e_nop, e_rev, e_blt, e_call, it_l, it_t, e_comp, e_val, int_i, e_rng1, e_rng2, zip_l, zip_t, e_zip, e_pop, e_dsp, t_b, t_i, o_neg, o_not, o_add, o_sub, o_mul, o_fdv, o_mod, o_pow, o_lt, o_le, o_gt, o_ge, o_eq, o_ne, o_addL, o_inn, o_nin, o_isn, o_isnn, o_subL, o_subT, o_len, o_lenT, o_tupl, o_list, o_int, o_abs, o_max, o_min, o_gcd, o_sum, o_all, o_any, rb, eqvS, rf_nil, rf_none, rf_some, p_nil, p_none, p_some, a_nm, a_tup, a_nil, a_cons, s_skp, then_nx, then_rt, then_bk, then_ct, s_seq, s_asg, s_fre, s_par, ps_nil, ps_cons, s_exp, s_ret, s_rtn, s_ifs, s_lop, s_brk, s_cnt, s_nvr, s_app, s_set, s_setK, c_lst, ap_lst, si_lst, end_nx, end_rt, oo_nil, oo_0, oo_s, dk_c, dk_m, dk_d, dk_set, dk_can, dk_app, permL, List.filterMap_cons, List.filterMap_nil, List.getElem?_cons_zero, List.getElem?_cons_succ, List.cons_append, List.nil_append, List.append_nil, at0, at1, at2, isi_int, isi_bool, isi_tup, eqvI, Option.some.injEq, exists_eq_left', true_and, and_true, wipeR, Bool.not_true, Bool.not_false, forall_const, List.map_cons, List.map_nil, reduceCtorEq, false_implies, implies_true, true_implies, Bool.true_eq_false, Bool.false_eq_true, eq_self, o_slc, i2_nh]
    refine sat_imp (hU L c2 r2 (mv x t w) true P v2 q0 q1 (by omega) hby ⟨fun _ => o2, fun _ => rfl⟩) ?_
    rintro _ rfl
    simp only [sOk, sat_bad, own_c0, own_cs, set_c0, set_cs, getS_c0, getS_cs, e_var, e_bor, e_iou, e_mov, e_frz, frz_some, e_cst, e_glb, e_flat, e_op1, e_op2, e_chn, chn_b, e_and, e_or, e_ife, lst_l, e_tup, e_lst, e_nil, e_cons, e_sub, e_key, e_slc, e_nop, e_rev, e_blt, e_call, it_l, it_t, e_comp, e_val, int_i, e_rng1, e_rng2, zip_l, zip_t, e_zip, e_pop, e_dsp, t_b, t_i, o_neg, o_not, o_add, o_sub, o_mul, o_fdv, o_mod, o_pow, o_lt, o_le, o_gt, o_ge, o_eq, o_ne, o_addL, o_inn, o_nin, o_isn, o_isnn, o_subL, o_subT, o_len, o_lenT, o_tupl, o_list, o_int, o_abs, o_max, o_min, o_gcd, o_sum, o_all, o_any, rb, eqvS, rf_nil, rf_none, rf_some, p_nil, p_none, p_some, a_nm, a_tup, a_nil, a_cons, s_skp, then_nx, then_rt, then_bk, then_ct, s_seq, s_asg, s_fre, s_par, ps_nil, ps_cons, s_exp, s_ret, s_rtn, s_ifs, s_lop, s_brk, s_cnt, s_nvr, s_app, s_set, s_setK, c_lst, ap_lst, si_lst, end_nx, end_rt, oo_nil, oo_0, oo_s, dk_c, dk_m, dk_d, dk_set, dk_can, dk_app, permL, List.filterMap_cons, List.filterMap_nil, List.getElem?_cons_zero, List.getElem?_cons_succ, List.cons_append, List.nil_append, List.append_nil, at0, at1, at2, isi_int, isi_bool, isi_tup, eqvI, Option.some.injEq, exists_eq_left', true_and, and_true, wipeR, Bool.not_true, Bool.not_false, forall_const, List.map_cons, List.map_nil, reduceCtorEq, false_implies, implies_true, true_implies, Bool.true_eq_false, Bool.false_eq_true, eq_self, o_slc, i2_nh]
    exact ⟨.inl trivial, _, _, _, _, _, d10, rfl, hd10.mono (by omega)⟩
  obtain ⟨s13, s14, s15, s16, s17, d8, rfl, hd8⟩ := hI
  simp only [then_nx, s_law_10, sOk, sat_bad, own_c0, own_cs, set_c0, set_cs, getS_c0, getS_cs, e_var, e_bor, e_iou, e_mov, e_frz, frz_some, e_cst, e_glb, e_flat, e_op1, e_op2, e_chn, chn_b, e_and, e_or, e_ife, lst_l, e_tup, e_lst, e_nil, e_cons, e_sub, e_key, e_slc, e_nop, e_rev, e_blt, e_call, it_l, it_t, e_comp, e_val, int_i, e_rng1, e_rng2, zip_l, zip_t, e_zip, e_pop, e_dsp, t_b, t_i, o_neg, o_not, o_add, o_sub, o_mul, o_fdv, o_mod, o_pow, o_lt, o_le, o_gt, o_ge, o_eq, o_ne, o_addL, o_inn, o_nin, o_isn, o_isnn, o_subL, o_subT, o_len, o_lenT, o_tupl, o_list, o_int, o_abs, o_max, o_min, o_gcd, o_sum, o_all, o_any, rb, eqvS, rf_nil, rf_none, rf_some, p_nil, p_none, p_some, a_nm, a_tup, a_nil, a_cons, s_skp, then_nx, then_rt, then_bk, then_ct, s_seq, s_asg, s_fre, s_par, ps_nil, ps_cons, s_exp, s_ret, s_rtn, s_ifs, s_lop, s_brk, s_cnt, s_nvr, s_app, s_set, s_setK, c_lst, ap_lst, si_lst, end_nx, end_rt, oo_nil, oo_0, oo_s, dk_c, dk_m, dk_d, dk_set, dk_can, dk_app, permL, List.filterMap_cons, List.filterMap_nil, List.getElem?_cons_zero, List.getElem?_cons_succ, List.cons_append, List.nil_append, List.append_nil, at0, at1, at2, isi_int, isi_bool, isi_tup, eqvI, Option.some.injEq, exists_eq_left', true_and, and_true, wipeR, Bool.not_true, Bool.not_false, forall_const, List.map_cons, List.map_nil, reduceCtorEq, false_implies, implies_true, true_implies, Bool.true_eq_false, Bool.false_eq_true, eq_self, o_slc, i2_nh]
end
end K03

set_option Elab.async false
set_option linter.all false
set_option maxRecDepth 100000
set_option maxHeartbeats 2000000
set_option exponentiation.threshold 10000
namespace K03
open PySem Mini Mini.W
section
variable {fu : Nat}
theorem sE {i : Nat} {df : Df} (h : C.P i = some df) (k : Nat) : sem C.P fu (k + 1) i = runDf (sem C.P fu k) fu df := by
  funext ds
  show (match C.P i with | some df => runDf (sem C.P fu k) fu df ds | none => .bad) = _
  rw [h]
theorem t_draw (k : Nat) : DrawOk (sem C.P fu (k + 1) i_law_draw) := by rw [sE (df := d_law_draw) rfl]; exact draw_ok
theorem t_product (k : Nat) : ProductOk (sem C.P fu (k + 1) i_law_product) := by rw [sE (df := d_law_product) rfl]; exact product_ok
theorem t_along (k : Nat) : ProdAtOk (sem C.P fu (k + 1) i_law_along) := by rw [sE (df := d_law_along) rfl]; exact along_ok
theorem t_moved (k : Nat) : MovedOk (sem C.P fu (k + 1) i_law_moved) := by rw [sE (df := d_law_moved) rfl]; exact moved_ok
theorem t_common (hfu : 10 ^ 700 ≤ fu) (k : Nat) : CommonOk (sem C.P fu (k + 1) i_law_common) := by rw [sE (df := d_law_common) rfl]; exact common_ok hfu
theorem t_deck (k : Nat) : DeckOk (sem C.P fu (k + 1) i_law_deck) := by rw [sE (df := d_law_deck) rfl]; exact deck_ok
theorem t_pick (k : Nat) : PickOk (sem C.P fu (k + 2) i_law_pick) := by rw [sE (df := d_law_pick) rfl]; exact pick_ok (t_draw k)
theorem t_great (hfu : 10 ^ 300 ≤ fu) (k : Nat) : GreatOk (sem C.P fu (k + 2) i_law_great) := by rw [sE (df := d_law_great) rfl]; exact great_ok hfu (t_draw k)
theorem t_signed (hfu : 10 ^ 300 ≤ fu) (k : Nat) : SignedOk (sem C.P fu (k + 3) i_law_signed) := by rw [sE (df := d_law_signed) rfl]; exact signed_ok (t_draw (k + 1)) (t_great hfu k)
theorem t_powers (k : Nat) : PowersOk (sem C.P fu (k + 3) i_law_powers) := by rw [sE (df := d_law_powers) rfl]; exact powers_ok (t_draw (k + 1)) (t_pick k)
theorem t_numbers (hfu : 10 ^ 300 ≤ fu) (k : Nat) : NumbersOk (sem C.P fu (k + 3) i_law_numbers) := by rw [sE (df := d_law_numbers) rfl]; exact @numbers_ok _ _ (t_draw (k + 1)) (t_pick k) (t_great hfu k)
theorem t_unit (hfu : 10 ^ 300 ≤ fu) (k : Nat) : UnitOk (sem C.P fu (k + 3) i_law_unit) := by rw [sE (df := d_law_unit) rfl]; exact unit_ok (t_great hfu k)
theorem t_step (hfu : 10 ^ 300 ≤ fu) (k : Nat) : StepOk (sem C.P fu (k + 4) i_law_step) := by rw [sE (df := d_law_step) rfl]; exact step_ok (t_draw (k + 2)) (t_signed hfu k) (t_product (k + 2))
theorem t_int (k : Nat) : IsIntOk (sem C.P fu (k + 1) i_is_integer) := by rw [sE (df := d_is_integer) rfl]; exact is_integer_ok
theorem t_ints (k : Nat) : AreIntsOk (sem C.P fu (k + 2) i_are_integers) := by rw [sE (df := d_are_integers) rfl]; exact are_integers_ok (t_int k)
theorem t_row (k : Nat) : CellRowOk (sem C.P fu (k + 3) i_is_cell_row) := by rw [sE (df := d_is_cell_row) rfl]; exact cell_row_ok (t_ints k)
theorem t_cell (k : Nat) : CellOfOk (sem C.P fu (k + 4) i_is_cell_of) := by rw [sE (df := d_is_cell_of) rfl]; exact cell_of_ok (t_row k)
theorem t_prod (k : Nat) : ProdAtOk (sem C.P fu (k + 1) i_product_at) := by rw [sE (df := d_product_at) rfl]; exact prod_at_ok
theorem t_class (k : Nat) : ClassOk (sem C.P fu (k + 4) i_is_class_row) := by rw [sE (df := d_is_class_row) rfl]; exact class_ok (t_row k)
theorem t_period (hfu : 10 ^ 300 ≤ fu) (k : Nat) : PeriodOk (sem C.P fu (k + 2) i_is_period_number) := by rw [sE (df := d_is_period_number) rfl]; exact period_ok hfu (t_int k)
theorem t_stripe (hfu : 10 ^ 300 ≤ fu) (k : Nat) : StripeOk (sem C.P fu (k + 5) i_is_stripe_row) := by rw [sE (df := d_is_stripe_row) rfl]; exact stripe_ok (t_int (k + 3)) (t_period hfu (k + 2)) (t_class k)
theorem t_lies (k : Nat) : LiesOk (sem C.P fu (k + 2) i_lies_on) := by rw [sE (df := d_lies_on) rfl]; exact lies_ok (t_prod k)
theorem t_need (hfu : 10 ^ 300 ≤ fu) (k : Nat) : NeedOk (sem C.P fu (k + 6) i_need_stripes) := by rw [sE (df := d_need_stripes) rfl]; exact need_ok (t_stripe hfu k)
theorem t_on (hfu : 10 ^ 300 ≤ fu) (k : Nat) : IsOnOk (sem C.P fu (k + 7) i_is_on) := by rw [sE (df := d_is_on) rfl]; exact is_on_ok (t_need hfu k) (t_cell (k + 2)) (t_lies (k + 4))
theorem t_due (hfu : 10 ^ 300 ≤ fu) (k : Nat) : DueOk (sem C.P fu (k + 8) i_law_is_due) := by rw [sE (df := d_law_is_due) rfl]; exact due_ok (t_on hfu k)
theorem t_comes (hfu : 10 ^ 700 ≤ fu) (hf : 10 ^ 300 ≤ fu) (k : Nat) : ComesOk (sem C.P fu (k + 9) i_law_comes_again) := by
  rw [sE (df := d_law_comes_again) rfl]
  exact comes_ok (t_draw (k + 7)) (t_great hf (k + 6)) (t_along (k + 7)) (t_common hfu (k + 7)) (t_moved (k + 7)) (t_due hf k)
theorem t_parts (hf : 10 ^ 300 ≤ fu) (k : Nat) : PartsOk (sem C.P fu (k + 9) i_law_is_of_parts) := by
  rw [sE (df := d_law_is_of_parts) rfl]
  exact parts_ok (t_draw (k + 7)) (t_signed hf (k + 5)) (t_product (k + 7)) (t_along (k + 7)) (t_moved (k + 7)) (t_due hf k)
theorem t_law (hfu : 10 ^ 700 ≤ fu) (hf : 10 ^ 300 ≤ fu) (k : Nat) : LawOk (sem C.P fu (k + 10) i_law) := by
  rw [sE (df := d_law) rfl]
  exact law_ok (t_deck (k + 8)) (t_draw (k + 8)) (t_great hf (k + 7)) (t_signed hf (k + 6)) (t_powers (k + 6)) (t_product (k + 8)) (@t_numbers _ hf (k + 6)) (t_unit hf (k + 6)) (t_along (k + 8)) (t_moved (k + 8)) (t_due hf (k + 1)) (t_step hf (k + 5)) (t_comes hfu hf k) (t_parts hf k)
end
theorem val (ns : List Int) (h : ns.length ≤ 63) : ∃ os, sem C.P (10 ^ 700) 12 27 [.list (ns.map .int)] = .ok (.bool true, os) := by
  have hf : 10 ^ 300 ≤ 10 ^ 700 := Nat.pow_le_pow_right (by decide) (by decide)
  obtain ⟨⟨d, os⟩, e, rfl⟩ := sEx (t_law (fu := 10 ^ 700) (Nat.le_refl _) hf 2 ns h)
  exact ⟨os, e⟩
end K03

set_option maxHeartbeats 0
namespace K03
open PySem L2 PySem.Spec PyProof.Rows Mini
def n0 : List Str := ["PaneError", "BadStripe", "BadCell", "MOST_PRIME", "MOST_ROOT", "MOST_BREADTH", "is_integer", "are_integers", "is_period_number", "is_cell_row", "is_cell_of", "product_at", "is_class_row", "is_stripe_row", "lies_on", "need_stripes", "is_on", "_law_deck", "_law_draw", "_law_pick", "_law_great", "_law_signed", "_law_powers", "_law_product", "_law_numbers", "_law_unit", "_law_along", "_law_common", "_law_moved", "_law_is_due"]
def n1 : List Str := ["_law_step", "_law_comes_again", "_law_is_of_parts"]
def loose : List Str := n0 ++ n1
abbrev R : PySem.W.OpenRow := PySem.W.OpenLaw.row PySem.Challenge.rw_slantpanes_k03_far_cells_on_stripes
abbrev hk : PySem.W.Hook := hookM 4 gb (faOf GC dfs) fn
def ob (s : PySem.W.SharedT) : AlM := obsM 4 gb (faOf GC dfs) fn (HandSHeadRun.getT s)
theorem ob_eq (s : PySem.W.SharedT) : ob s = hk.obs s.abs := obsM_eq (HandSHeadRun.getT_eq s)
theorem run (w : World) : HandSHeadRun.RunEqI R (PySem.W.view R.prog [0, 38]) hk ob 4000 loose w := by
  unfold HandSHeadRun.RunEqI
  kernel_rfl
end K03

section
open PySem PySem.W PySem.Calls PyProof.Rows
theorem PySem.Challenge.cw_slantpanes_k03_far_cells_on_stripes_holds : PySem.Challenge.rw_slantpanes_k03_far_cells_on_stripes.Holds := by
  w_on; o_law
  refine HandSHeadRun.head_imp (r := K03.R) (q := view K03.R.prog [0, 38]) (H := K03.hk) (ob := K03.ob) (M := 4000) (loose := K03.loose) (d := HandSHeadRun.topDef K03.R.prog 38) (kwd := []) K03.ob_eq K03.run (by kernel_rfl) (by kernel_rfl) (by kernel_rfl) (by rfl) (by first | assumption | decide +kernel) (by decide +kernel) ⟨rfl, rfl, rfl, rfl, rfl, by decide +kernel⟩ ?hw ?hc
  case hw => w_witness2
  case hc =>
    exact Mini.walk_mini (l := PySem.Challenge.rw_slantpanes_k03_far_cells_on_stripes) (n := 63) (k := 12) (x := "_law_script") (C := K03.C) (dfs := K03.dfs) (GC := K03.GC) (i := 27) (df := K03.d_law) rfl (by decide) (by kernel_rfl) ⟨rfl, by decide, by decide⟩ (10 ^ 700) (fun _ => rfl) rfl (fun _ => List.mem_cons_self) K03.all rfl (by kernel_rfl) rfl rfl List.mem_cons_self K03.val
end
