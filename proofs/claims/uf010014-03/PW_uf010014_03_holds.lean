import PyProof.Rows.All
import PyProof.P3Statements
import PyProof.Calls
import PyProof.Cells
import PyProof.DictUpdate
import PyProof.TupleOps
import PyProof.Straight
import PyProof.Rows.Globals
import PyProof.Rows.RuleB_floordiv
import PyProof.Rows.RuleB_mod
import PyProof.Rows.RuleB_pow
import PyProof.Rows.StrRules
import PyProof.Rows.Chain
import PyProof.StrBlock2
import PyProof.PureInt
import KE.KEqDict
import KE.KDictList
import KE.KDictOf
import PyProof.Methods
import PyProof.DictTable
import PyProof.FactsAll.list_3
import PyProof.FactsAll.dict_3
import PyProof.FactsAll.dict_4
import PyProof.WalksMore
import PyProof.RangeFor
import PyProof.CompFree
import PyProof.MakeMany
import PyProof.Rows.Nodes
import PyProof.Ops
import PyProof.TupleIter
import PyProof.Rows.HelperG
import Wide.All
import OpenK.AllK
import Wide.FinOn
import PySem.Challenge.RW_uf010014_03
set_option bootstrap.genMatcherCode false
set_option genSizeOf false
set_option genInjectivity false
set_option autoImplicit false
namespace Mine
set_option genSizeOf false
set_option genInjectivity false
open PySem

/-! ## values, store, results -/
inductive V where
  | un
  | d (x : PyData)
  | loc (n : Nat)
  | locs (l : List Nat)


inductive Cell where
  | lst (l : List PyData)
  | dct (l : List (Str × PyData))
  | gone
  | busy

abbrev Store := List Cell
abbrev Fm := List V

inductive Res (α : Type) where
  | ok (a : α) (σ : Store)
  | bad

noncomputable def Res.bind {α β : Type} : Res α → (α → Store → Res β) → Res β
  | .ok a σ, f => f a σ
  | .bad, _ => .bad

noncomputable def lift {α : Type} (o : Option α) (σ : Store) : Res α := match o with
  | some a => .ok a σ
  | none => .bad

/-! ## syntax -/
inductive BOp where | add | sub | mul | fdiv | mod | pow
inductive COp where | eq | ne | lt | le | gt | ge | isN | isNotN | isIn | notIn
inductive Ty where | list | int | bool | str | tuple
inductive Bi where | len | list | dict | int | max | tuple | sorted | sortedSet | any | all | isinst (t : Ty)
inductive Me where | get | append | extend | update | pop | count | index
inductive Tgt where
  | var (i : Nat)
  | tup (l : List Nat)

mutual
inductive E where
  | none
  | bool (b : Bool)
  | int (i : Int)
  | str (s : Str)
  | var (i : Nat)
  | glob (g : Nat)
  | bin (op : BOp) (m : Bool) (a b : E)
  | neg (a : E)
  | not (a : E)
  | bop (isAnd : Bool) (es : EL)
  | cmp (op : COp) (a b : E)
  | cmp2 (o₁ o₂ : COp) (a b c : E)
  | ite (c a b : E)
  | tup (es : EL)
  | list (m : Bool) (es : EL)
  | dict0
  | dict1 (k : Str) (i : Int)
  | idx (a i : E)
  | slc (m : Bool) (a : E) (lo hi : EO)
  | comp (m : Bool) (t : Tgt) (it : It) (c : EO) (e : E)
  | call (f : Nat) (es : EL)
  | bi (b : Bi) (m : Bool) (es : EL)
  | meth (b : Me) (o : E) (es : EL)
  | freeze (e : E)
inductive EL where
  | nil
  | cons (e : E) (es : EL)
inductive EO where
  | no
  | yes (e : E)
inductive It where
  | seq (e : E)
  | range (e : E)
  | range2 (a b : E)
  | enum (e : E)
end

mutual
inductive S where
  | expr (e : E)
  | asg (t : Tgt) (e : E)
  | asgT (l : List Nat) (e : E)
  | put (o i e : E)
  | aug (i : Nat) (e : E)
  | ite (c : E) (a b : SL)
  | forr (t : Tgt) (it : It) (b : SL)
  | ret (e : E)
  | pass
  | stop
inductive SL where
  | nil
  | cons (s : S) (r : SL)
end

/-! ## operations on values -/
noncomputable def clip (n : Nat) (i : Int) : Nat := (max 0 (min (if i < 0 then i + n else i) n)).toNat
noncomputable def sliceL {α : Type} (l : List α) (lo hi : Option Int) : List α :=
  (l.drop ((lo.map (clip l.length)).getD 0)).take ((hi.map (clip l.length)).getD l.length - (lo.map (clip l.length)).getD 0)
noncomputable def index (n : Nat) (i : Int) : Option Nat := if 0 ≤ i then (if i < n then some i.toNat else none) else (if 0 ≤ i + n then some (i + n).toNat else none)
noncomputable def strL (x : Str) : List Nat := x.cps.toList
noncomputable def strOfL (l : List Nat) : Str := ⟨l.toArray⟩
noncomputable def LIM : Nat := 1000000

/-! small tools: one or two parts, if they are there -/
noncomputable def oc {α γ : Type} (o : Option α) (f : α → γ) (z : γ) : γ := match o with
  | some a => f a
  | none => z
noncomputable def b2 {α β γ : Type} (o : Option α) (p : Option β) (f : α → β → γ) (z : γ) : γ := oc o (fun a => oc p (fun b => f a b) z) z
theorem oc_cases {α γ : Type} (o : Option α) (f : α → γ) (z : γ) : (∃ a, o = some a ∧ oc o f z = f a) ∨ oc o f z = z := by
  cases o with
  | none => exact .inr rfl
  | some a => exact .inl ⟨a, rfl, rfl⟩
theorem b2_cases {α β γ : Type} (o : Option α) (p : Option β) (f : α → β → γ) (z : γ) : (∃ a b, o = some a ∧ p = some b ∧ b2 o p f z = f a b) ∨ b2 o p f z = z := by
  cases o with
  | none => exact .inr rfl
  | some a => cases p with
    | none => exact .inr rfl
    | some b => exact .inl ⟨a, b, rfl, rfl, rfl⟩
noncomputable def pureD : V → Option PyData
  | .d x => some x
  | _ => none
noncomputable def intD : PyData → Option Int
  | .int i => some i
  | _ => none
noncomputable def strD : PyData → Option Str
  | .str i => some i
  | _ => none
noncomputable def boolD : PyData → Option Bool
  | .bool i => some i
  | _ => none
noncomputable def tupD : PyData → Option (List PyData)
  | .tuple i => some i
  | _ => none
noncomputable def intV (v : V) : Option Int := (pureD v).bind intD
noncomputable def strV (v : V) : Option Str := (pureD v).bind strD
noncomputable def boolV (v : V) : Option Bool := (pureD v).bind boolD
noncomputable def tupV (v : V) : Option (List PyData) := (pureD v).bind tupD
theorem pureD_ok {v : V} {x : PyData} (h : pureD v = some x) : v = .d x := by
  cases v <;> first | (cases h; rfl) | cases h
theorem intD_ok {v : PyData} {x : Int} (h : intD v = some x) : v = .int x := by
  cases v <;> first | (cases h; rfl) | cases h
theorem strD_ok {v : PyData} {x : Str} (h : strD v = some x) : v = .str x := by
  cases v <;> first | (cases h; rfl) | cases h
theorem boolD_ok {v : PyData} {x : Bool} (h : boolD v = some x) : v = .bool x := by
  cases v <;> first | (cases h; rfl) | cases h
theorem tupD_ok {v : PyData} {x : List PyData} (h : tupD v = some x) : v = .tuple x := by
  cases v <;> first | (cases h; rfl) | cases h
theorem intV_ok {v : V} {x : Int} (h : intV v = some x) : v = .d (.int x) := by
  obtain ⟨y, h1, h2⟩ := Option.bind_eq_some_iff.mp h
  rw [pureD_ok h1, intD_ok h2]
theorem strV_ok {v : V} {x : Str} (h : strV v = some x) : v = .d (.str x) := by
  obtain ⟨y, h1, h2⟩ := Option.bind_eq_some_iff.mp h
  rw [pureD_ok h1, strD_ok h2]
theorem boolV_ok {v : V} {x : Bool} (h : boolV v = some x) : v = .d (.bool x) := by
  obtain ⟨y, h1, h2⟩ := Option.bind_eq_some_iff.mp h
  rw [pureD_ok h1, boolD_ok h2]
theorem tupV_ok {v : V} {x : List PyData} (h : tupV v = some x) : v = .d (.tuple x) := by
  obtain ⟨y, h1, h2⟩ := Option.bind_eq_some_iff.mp h
  rw [pureD_ok h1, tupD_ok h2]
noncomputable def one {α : Type} : List α → Option α
  | [a] => some a
  | _ => none
noncomputable def two {α : Type} : List α → Option (α × α)
  | [a, b] => some (a, b)
  | _ => none
theorem one_ok {α : Type} {l : List α} {a : α} (h : one l = some a) : l = [a] := by
  cases l with
  | nil => cases h
  | cons x l => cases l with
    | nil => cases h; rfl
    | cons _ _ => cases h
theorem two_ok {α : Type} {l : List α} {a b : α} (h : two l = some (a, b)) : l = [a, b] := by
  cases l with
  | nil => cases h
  | cons x l => cases l with
    | nil => cases h
    | cons y l => cases l with
      | nil => cases h; rfl
      | cons _ _ => cases h

noncomputable def lstC : Cell → Option (List PyData)
  | .lst l => some l
  | _ => none
noncomputable def dctC : Cell → Option (List (Str × PyData))
  | .dct l => some l
  | _ => none
noncomputable def lstAt (σ : Store) (n : Nat) : Option (List PyData) := σ[n]?.bind lstC
noncomputable def dctAt (σ : Store) (n : Nat) : Option (List (Str × PyData)) := σ[n]?.bind dctC
theorem lstAt_ok {σ : Store} {n : Nat} {l : List PyData} (h : lstAt σ n = some l) : σ[n]? = some (.lst l) := by
  obtain ⟨c, h1, h2⟩ := Option.bind_eq_some_iff.mp h
  rw [h1]
  cases c <;> first | (cases h2; rfl) | cases h2
theorem dctAt_ok {σ : Store} {n : Nat} {l : List (Str × PyData)} (h : dctAt σ n = some l) : σ[n]? = some (.dct l) := by
  obtain ⟨c, h1, h2⟩ := Option.bind_eq_some_iff.mp h
  rw [h1]
  cases c <;> first | (cases h2; rfl) | cases h2
theorem lstAt_is {σ : Store} {n : Nat} {l : List PyData} (h : σ[n]? = some (.lst l)) : lstAt σ n = some l := by
  unfold lstAt; rw [h]; rfl
theorem dctAt_is {σ : Store} {n : Nat} {l : List (Str × PyData)} (h : σ[n]? = some (.dct l)) : dctAt σ n = some l := by
  unfold dctAt; rw [h]; rfl
noncomputable def locV : V → Option Nat
  | .loc n => some n
  | _ => none
theorem locV_ok {v : V} {n : Nat} (h : locV v = some n) : v = .loc n := by
  cases v <;> first | (cases h; rfl) | cases h
noncomputable def noneV : V → Option Unit
  | .d .none => some ()
  | _ => none
theorem noneV_ok {v : V} {u : Unit} (h : noneV v = some u) : v = .d .none := by
  cases v
  case d x => cases x <;> first | rfl | cases h
  all_goals cases h
noncomputable def lstD : PyData → Option (List PyData)
  | .list i => some i
  | _ => none
theorem lstD_ok {v : PyData} {x : List PyData} (h : lstD v = some x) : v = .list x := by
  cases v <;> first | (cases h; rfl) | cases h
/-- the items of a list (box or value) -/
noncomputable def listOf (σ : Store) : V → Option (List PyData)
  | .d x => lstD x
  | .loc n => lstAt σ n
  | _ => none
noncomputable def dctOf (σ : Store) : V → Option (List (Str × PyData))
  | .loc n => dctAt σ n
  | _ => none
/-- list or tuple as data -/
noncomputable def asD (σ : Store) : V → Option PyData
  | .d x => some x
  | .loc n => (lstAt σ n).map PyData.list
  | _ => none
noncomputable def mkList (m : Bool) (l : List PyData) (σ : Store) : Res V :=
  if m then .ok (.loc σ.length) (σ ++ [.lst l]) else .ok (.d (.list l)) σ

noncomputable def truD : PyData → Option Bool
  | .none => some false
  | .bool b => some b
  | .int i => some (i != 0)
  | .str x => some (x.cps.size != 0)
  | .list l => some (!l.isEmpty)
  | .tuple l => some (!l.isEmpty)
  | _ => none
noncomputable def truthy (σ : Store) : V → Option Bool
  | .d x => truD x
  | .loc n => oc (lstAt σ n) (fun l => some (!l.isEmpty)) (oc (dctAt σ n) (fun l => some (!l.isEmpty)) none)
  | _ => none

noncomputable def mulOk (a b : Int) : Bool := decide (a.natAbs < 9223372036854775808) || decide (b.natAbs < 9223372036854775808)

noncomputable def binV (op : BOp) (m : Bool) (a b : V) (σ : Store) : Res V := match op with
  | .add => b2 (intV a) (intV b) (fun x y => .ok (.d (.int (x + y))) σ)
    (b2 (strV a) (strV b) (fun x y => if x.cps.size + y.cps.size ≤ LIM then .ok (.d (.str (strOfL (strL x ++ strL y)))) σ else .bad)
    (b2 (tupV a) (tupV b) (fun x y => if x.length + y.length ≤ LIM then .ok (.d (.tuple (x ++ y))) σ else .bad)
    (b2 (listOf σ a) (listOf σ b) (fun x y => if x.length + y.length ≤ LIM then mkList m (x ++ y) σ else .bad) .bad)))
  | .sub => b2 (intV a) (intV b) (fun x y => .ok (.d (.int (x - y))) σ) .bad
  | .mul => b2 (intV a) (intV b) (fun x y => if mulOk x y then .ok (.d (.int (x * y))) σ else .bad)
    (b2 (strV a) (intV b) (fun x n => if 0 ≤ n ∧ n ≤ 1000 ∧ x.cps.size ≤ 1000 then .ok (.d (.str (strOfL (List.replicate n.toNat (strL x)).flatten))) σ else .bad) .bad)
  | .fdiv => b2 (intV a) (intV b) (fun x y => if 0 < y ∧ y < 9223372036854775808 then .ok (.d (.int (x / y))) σ else .bad) .bad
  | .mod => b2 (intV a) (intV b) (fun x y => if 0 < y then .ok (.d (.int (x % y))) σ else .bad) .bad
  | .pow => b2 (intV a) (intV b) (fun x y => if x = 10 ∧ y = 20 then .ok (.d (.int 100000000000000000000)) σ else .bad) .bad

noncomputable def eqD (a b : PyData) : Option Bool := if min a.depth b.depth ≤ 64 then some (a.eqv b) else none
noncomputable def dctSub (a b : List (Str × PyData)) : Bool := a.all fun kv => match b.lookup kv.1 with
  | some y => kv.2.eqv y
  | none => false
noncomputable def flatD : PyData → Bool
  | .none | .bool _ | .int _ | .str _ => true
  | _ => false
noncomputable def eqV (σ : Store) (a b : V) : Option Bool := match asD σ a, asD σ b with
  | some x, some y => eqD x y
  | _, _ => match dctOf σ a, dctOf σ b with
    | some x, some y => if (x.all fun kv => flatD kv.2) && (y.all fun kv => flatD kv.2) then some (x.length == y.length && dctSub x y) else none
    | _, _ => none

noncomputable def ltL : List PyData → List PyData → Option Bool
  | [], [] => some false
  | [], _ :: _ => some true
  | _ :: _, [] => some false
  | .int x :: xs, .int y :: ys => if x = y then ltL xs ys else some (decide (x < y))
  | _, _ => none

noncomputable def isNoneD : PyData → Bool
  | .none => true
  | _ => false
noncomputable def inL1 (x : PyData) (l : List PyData) : Option Bool := if min (PyData.depthAll l) x.depth ≤ 64 then some (l.any fun y => y.eqv x) else none
noncomputable def cmpV.inV (a b : V) (σ : Store) : Option Bool := oc (pureD a) (fun x =>
  b2 (strD x) (strV b) (fun x y => if x.cps.size = 1 then some ((strL y).any fun c => strL x == [c]) else none)
  (oc (tupV b) (fun l => inL1 x l)
  (oc (listOf σ b) (fun l => inL1 x l)
  (b2 (strD x) (dctOf σ b) (fun k kvs => some (kvs.lookup k).isSome) none)))) none
noncomputable def cmpV (op : COp) (a b : V) (σ : Store) : Option Bool := match op with
  | .eq => eqV σ a b
  | .ne => (eqV σ a b).map (!·)
  | .lt => b2 (intV a) (intV b) (fun x y => some (decide (x < y))) none
  | .le => b2 (intV a) (intV b) (fun x y => some (decide (x ≤ y))) none
  | .gt => b2 (intV a) (intV b) (fun x y => some (decide (x > y))) none
  | .ge => b2 (intV a) (intV b) (fun x y => some (decide (x ≥ y))) none
  | .isN => oc (noneV b) (fun _ => oc (pureD a) (fun x => some (isNoneD x)) (oc (locV a) (fun _ => some false) none)) none
  | .isNotN => oc (noneV b) (fun _ => oc (pureD a) (fun x => some (!isNoneD x)) (oc (locV a) (fun _ => some true) none)) none
  | .isIn => cmpV.inV a b σ
  | .notIn => (cmpV.inV a b σ).map (!·)

noncomputable def locsV : V → Option (List Nat)
  | .locs l => some l
  | _ => none
theorem locsV_ok {v : V} {l : List Nat} (h : locsV v = some l) : v = .locs l := by
  cases v <;> first | (cases h; rfl) | cases h
noncomputable def idxV (a i : V) (σ : Store) : Option V := oc (intV i) (fun i =>
  oc (tupV a) (fun l => (index l.length i).bind fun k => (l[k]?).map V.d)
  (oc (strV a) (fun x => (index (strL x).length i).bind fun k => ((strL x)[k]?).map fun c => V.d (.str (strOfL [c])))
  (oc (locsV a) (fun l => if 0 ≤ i then (l[i.toNat]?).map V.loc else none)
  (oc (listOf σ a) (fun l => if 0 ≤ i then (l[i.toNat]?).map V.d else none) none))))
  (b2 (strV i) (dctOf σ a) (fun k kvs => (kvs.lookup k).map V.d) none)

noncomputable def optInt : Option V → Option (Option Int)
  | none => some none
  | some (.d (.int i)) => some (some i)
  | some _ => none
noncomputable def slcV (m : Bool) (a : V) (lo hi : Option V) (σ : Store) : Res V := match optInt lo, optInt hi with
  | some l, some h => match a with
    | .d (.tuple x) => .ok (.d (.tuple (sliceL x l h))) σ
    | .d (.str x) => .ok (.d (.str (strOfL (sliceL (strL x) l h)))) σ
    | a => match listOf σ a with
      | some x => mkList m (sliceL x l h) σ
      | none => .bad
  | _, _ => .bad

noncomputable def put1 (k : Str) (v : PyData) (kvs : List (Str × PyData)) : List (Str × PyData) :=
  if kvs.any (fun x => decide (x.1 = k)) then kvs.map fun x => if x.1 = k then (x.1, v) else x else kvs ++ [(k, v)]
noncomputable def putAll (kvs more : List (Str × PyData)) : List (Str × PyData) := more.foldl (fun acc x => put1 x.1 x.2 acc) kvs

noncomputable def strLt (x y : Str) : Bool := decide (strL x < strL y)
noncomputable def insStr (x : Str) : List Str → List Str
  | [] => [x]
  | y :: r => if strLt y x then y :: insStr x r else x :: y :: r
noncomputable def sortStr : List Str → List Str
  | [] => []
  | x :: r => insStr x (sortStr r)
noncomputable def dedup : List Str → List Str
  | [] => []
  | x :: r => if x ∈ r then dedup r else x :: dedup r
noncomputable def strsOf : List PyData → Option (List Str)
  | [] => some []
  | .str x :: r => (strsOf r).map (x :: ·)
  | _ => none
noncomputable def boolsOf : List PyData → Option (List Bool)
  | [] => some []
  | .bool x :: r => (boolsOf r).map (x :: ·)
  | _ => none

noncomputable def tyEq : Ty → Ty → Bool
  | .list, .list => true
  | .int, .int => true
  | .bool, .bool => true
  | .str, .str => true
  | .tuple, .tuple => true
  | _, _ => false
noncomputable def tyD (t : Ty) : PyData → Option Bool
  | .int _ => if tyEq t .int || tyEq t .bool then some (tyEq t .int) else none
  | .str _ => if tyEq t .str then some true else none
  | .list _ => if tyEq t .list then some true else none
  | _ => none
noncomputable def tyV (t : Ty) (σ : Store) : V → Option Bool
  | .d x => tyD t x
  | .loc n => if tyEq t .list then (lstAt σ n).map fun _ => true else none
  | _ => none

noncomputable def biV (b : Bi) (m : Bool) (vs : List V) (σ : Store) : Res V := match b with
  | .len => oc (one vs) (fun a => oc (tupV a) (fun l => .ok (.d (.int l.length)) σ) (oc (strV a) (fun x => .ok (.d (.int (strL x).length)) σ) (oc (listOf σ a) (fun l => .ok (.d (.int l.length)) σ) .bad))) .bad
  | .list => oc (one vs) (fun a => oc (tupV a) (fun l => mkList m l σ) (oc (listOf σ a) (fun l => mkList m l σ) (oc (dctOf σ a) (fun kvs => mkList m (kvs.map fun x => .str x.1) σ) .bad))) .bad
  | .int => oc (one vs) (fun a => oc (boolV a) (fun b => .ok (.d (.int (if b then 1 else 0))) σ) .bad) .bad
  | .tuple => oc (one vs) (fun a => oc (listOf σ a) (fun l => .ok (.d (.tuple l)) σ) .bad) .bad
  | .sorted => oc (one vs) (fun a => oc ((listOf σ a).bind strsOf) (fun l => if l.length < 64 then mkList m ((sortStr l).map .str) σ else .bad) .bad) .bad
  | .isinst t => oc (one vs) (fun a => oc (tyV t σ a) (fun b => .ok (.d (.bool b)) σ) .bad) .bad
  | _ => .bad

noncomputable def meV (b : Me) (o : V) (vs : List V) (σ : Store) : Res V := match b with
  | .append => oc (one vs) (fun a => b2 (locV o) (pureD a) (fun n x => oc (lstAt σ n) (fun l => if l.length < LIM then .ok (.d .none) (σ.set n (.lst (l ++ [x]))) else .bad) .bad) .bad) .bad
  | .update => oc (one vs) (fun b => b2 (locV o) (locV b) (fun n k => if n ≠ k then b2 (dctAt σ n) (dctAt σ k) (fun x y => if x.length + y.length ≤ LIM then .ok (.d .none) (σ.set n (.dct (putAll x y))) else .bad) .bad else .bad) .bad) .bad
  | _ => .bad

/-- the receiver's type, at the time the method is taken -/
noncomputable def meOk (b : Me) (σ : Store) (o : V) : Bool := match b with
  | .get | .update => (dctOf σ o).isSome
  | _ => (listOf σ o).isSome

noncomputable def frz (v : V) (σ : Store) : Res V := oc (locV v) (fun n => oc (lstAt σ n) (fun l => .ok (.d (.list l)) (σ.set n .gone)) .bad) .bad

noncomputable def dispL (m : Bool) (vs : List V) (σ : Store) : Res V :=
  match vs.mapM pureD with
  | some l => mkList m l σ
  | none => match vs.mapM (fun v => match v with | .loc n => some n | _ => none) with
    | some ns => if m then .bad else .ok (.locs ns) σ
    | none => .bad
noncomputable def dispT (vs : List V) (σ : Store) : Res V := match vs.mapM pureD with
  | some l => .ok (.d (.tuple l)) σ
  | none => .bad

noncomputable def bindT (t : Tgt) (x : PyData) (ρ : Fm) : Option Fm := match t, x with
  | .var i, x => some (ρ.set i (.d x))
  | .tup is, .tuple l => if is.length = l.length then some ((is.zip l).foldl (fun ρ p => ρ.set p.1 (.d p.2)) ρ) else none
  | _, _ => none
noncomputable def setAll : List Nat → List PyData → Fm → Fm
  | i :: l, x :: ds, ρ => setAll l ds (ρ.set i (.d x))
  | _, _, ρ => ρ
noncomputable def bindV (t : Tgt) (v : V) (ρ : Fm) : Option Fm := match t, v with
  | .var i, v => some (ρ.set i v)
  | .tup is, .d x => bindT (.tup is) x ρ
  | _, _ => none

noncomputable def rangeL (a b : Int) : List PyData := (List.range (b - a).toNat).map fun (k : Nat) => .int (a + (k : Int))
noncomputable def enumL (l : List PyData) : List PyData := l.zipIdx.map fun p => .tuple [.int p.2, p.1]

/-- the items of an iterated thing, and the box that is busy meanwhile -/
noncomputable def openV (v : V) (σ : Store) : Option (List PyData × Option Nat) := match v with
  | .d x => oc (tupD x) (fun l => some (l, none)) (oc (lstD x) (fun l => some (l, none)) none)
  | .loc n => (lstAt σ n).map fun l => (l, some n)
  | _ => none
noncomputable def lockS (lk : Option Nat) (σ : Store) : Store := match lk with
  | some n => σ.set n .busy
  | none => σ
noncomputable def unlockS (lk : Option Nat) (l : List PyData) (σ : Store) : Store := match lk with
  | some n => σ.set n (.lst l)
  | none => σ

noncomputable def compL (f : PyData → Store → Res (Option PyData)) : List PyData → Store → Res (List PyData)
  | [], σ => .ok [] σ
  | x :: xs, σ => (f x σ).bind fun o σ₁ => (compL f xs σ₁).bind fun r σ₂ => .ok (o.toList ++ r) σ₂

inductive Out where
  | next (ρ : Fm)
  | ret (v : V)

noncomputable def loopL (f : PyData → Fm → Store → Res Out) : List PyData → Fm → Store → Res Out
  | [], ρ, σ => .ok (.next ρ) σ
  | x :: xs, ρ, σ => (f x ρ σ).bind fun o σ₁ => match o with
    | .next ρ₁ => loopL f xs ρ₁ σ₁
    | .ret v => .ok (.ret v) σ₁

/-- leaving a call: the boxes that it made go, but for the one that it hands back -/
noncomputable def exitV (n : Nat) (v : V) (σ : Store) : Res V := match v with
  | .d x => .ok (.d x) (σ.take n)
  | .loc k => if k < n then .ok (.loc k) (σ.take n) else match σ[k]? with
    | some (.lst l) => .ok (.loc n) (σ.take n ++ [.lst l])
    | some (.dct l) => .ok (.loc n) (σ.take n ++ [.dct l])
    | _ => .bad
  | _ => .bad

/-! ## the interpreter -/
structure Items where
  shown : List PyData
  base : List PyData
  lk : Option Nat

section
variable (G : Nat → Option PyData) (cf : Nat → List V → Store → Res V)
mutual
noncomputable def evalE : E → Fm → Store → Res V
  | .none, _, σ => .ok (.d .none) σ
  | .bool b, _, σ => .ok (.d (.bool b)) σ
  | .int i, _, σ => .ok (.d (.int i)) σ
  | .str x, _, σ => .ok (.d (.str x)) σ
  | .var i, ρ, σ => match ρ[i]? with
    | some .un => .bad
    | some v => .ok v σ
    | none => .bad
  | .glob g, _, σ => lift ((G g).map V.d) σ
  | .bin op m a b, ρ, σ => (evalE a ρ σ).bind fun x σ₁ => (evalE b ρ σ₁).bind fun y σ₂ => binV op m x y σ₂
  | .neg a, ρ, σ => (evalE a ρ σ).bind fun x σ₁ => oc (intV x) (fun i => .ok (.d (.int (-i))) σ₁) .bad
  | .not a, ρ, σ => (evalE a ρ σ).bind fun x σ₁ => lift ((truthy σ₁ x).map fun b => V.d (.bool (!b))) σ₁
  | .bop k es, ρ, σ => evalB k es ρ σ
  | .cmp op a b, ρ, σ => (evalE a ρ σ).bind fun x σ₁ => (evalE b ρ σ₁).bind fun y σ₂ => lift ((cmpV op x y σ₂).map fun b => V.d (.bool b)) σ₂
  | .cmp2 o₁ o₂ a b c, ρ, σ => (evalE a ρ σ).bind fun x σ₁ => (evalE b ρ σ₁).bind fun y σ₂ => (lift (cmpV o₁ x y σ₂) σ₂).bind fun t σ₂ =>
      if t then (evalE c ρ σ₂).bind fun z σ₃ => lift ((cmpV o₂ y z σ₃).map fun b => V.d (.bool b)) σ₃ else .ok (.d (.bool false)) σ₂
  | .ite c a b, ρ, σ => (evalE c ρ σ).bind fun x σ₁ => (lift (truthy σ₁ x) σ₁).bind fun t σ₁ => if t then evalE a ρ σ₁ else evalE b ρ σ₁
  | .tup es, ρ, σ => (evalEL es ρ σ).bind fun vs σ₁ => dispT vs σ₁
  | .list m es, ρ, σ => (evalEL es ρ σ).bind fun vs σ₁ => dispL m vs σ₁
  | .dict0, _, σ => .ok (.loc σ.length) (σ ++ [.dct []])
  | .dict1 k i, _, σ => .ok (.loc σ.length) (σ ++ [.dct [(k, .int i)]])
  | .idx a i, ρ, σ => (evalE a ρ σ).bind fun x σ₁ => (evalE i ρ σ₁).bind fun y σ₂ => lift (idxV x y σ₂) σ₂
  | .slc m a lo hi, ρ, σ => (evalE a ρ σ).bind fun x σ₁ => (evalEO lo ρ σ₁).bind fun l σ₂ => (evalEO hi ρ σ₂).bind fun h σ₃ => slcV m x l h σ₃
  | .comp m t it c e, ρ, σ => (evalIt it ρ σ).bind fun I σ₁ =>
      (compL (fun x σ' => match bindT t x ρ with
        | none => .bad
        | some ρ' => (evalEO c ρ' σ').bind fun cv σ₂ => match cv with
          | none => (evalE e ρ' σ₂).bind fun y σ₃ => lift ((pureD y).map some) σ₃
          | some cv => (lift (truthy σ₂ cv) σ₂).bind fun b σ₂ => if b then (evalE e ρ' σ₂).bind fun y σ₃ => lift ((pureD y).map some) σ₃ else .ok none σ₂) I.shown (lockS I.lk σ₁ ++ [.busy])).bind fun r σ₂ =>
      mkList m r ((unlockS I.lk I.base σ₂).take σ₁.length)
  | .call f es, ρ, σ => (evalEL es ρ σ).bind fun vs σ₁ => cf f vs σ₁
  | .bi b m es, ρ, σ => (evalEL es ρ σ).bind fun vs σ₁ => biV b m vs σ₁
  | .meth b o es, ρ, σ => (evalE o ρ σ).bind fun x σ₁ => if meOk b σ₁ x then (evalEL es ρ σ₁).bind fun vs σ₂ => meV b x vs σ₂ else .bad
  | .freeze e, ρ, σ => (evalE e ρ σ).bind fun x σ₁ => frz x σ₁
noncomputable def evalEL : EL → Fm → Store → Res (List V)
  | .nil, _, σ => .ok [] σ
  | .cons e es, ρ, σ => (evalE e ρ σ).bind fun x σ₁ => (evalEL es ρ σ₁).bind fun xs σ₂ => .ok (x :: xs) σ₂
noncomputable def evalB (k : Bool) : EL → Fm → Store → Res V
  | .nil, _, _ => .bad
  | .cons e es, ρ, σ => match es with
    | .nil => evalE e ρ σ
    | es => (evalE e ρ σ).bind fun x σ₁ => (lift (truthy σ₁ x) σ₁).bind fun t σ₁ => if t = k then evalB k es ρ σ₁ else .ok x σ₁
noncomputable def evalEO : EO → Fm → Store → Res (Option V)
  | .no, _, σ => .ok none σ
  | .yes e, ρ, σ => (evalE e ρ σ).bind fun x σ₁ => .ok (some x) σ₁
noncomputable def evalIt : It → Fm → Store → Res Items
  | .seq e, ρ, σ => (evalE e ρ σ).bind fun x σ₁ => lift ((openV x σ₁).map fun p => ⟨p.1, p.1, p.2⟩) σ₁
  | .enum e, ρ, σ => (evalE e ρ σ).bind fun x σ₁ => lift ((openV x σ₁).map fun p => ⟨enumL p.1, p.1, p.2⟩) σ₁
  | .range e, ρ, σ => (evalE e ρ σ).bind fun x σ₁ => oc (intV x) (fun b => if -100000 ≤ b ∧ b ≤ 100000 then .ok ⟨rangeL 0 b, [], none⟩ σ₁ else .bad) .bad
  | .range2 a b, ρ, σ => (evalE a ρ σ).bind fun x σ₁ => (evalE b ρ σ₁).bind fun y σ₂ => b2 (intV x) (intV y) (fun a b => if (-100000 ≤ a ∧ a ≤ 100000) ∧ (-100000 ≤ b ∧ b ≤ 100000) then .ok ⟨rangeL a b, [], none⟩ σ₂ else .bad) .bad
end

mutual
noncomputable def exec : S → Fm → Store → Res Out
  | .expr e, ρ, σ => (evalE G cf e ρ σ).bind fun v σ₁ => oc (noneV v) (fun _ => .ok (.next ρ) σ₁) .bad
  | .asg t e, ρ, σ => (evalE G cf e ρ σ).bind fun x σ₁ => lift ((bindV t x ρ).map Out.next) σ₁
  | .asgT l e, ρ, σ => (evalE G cf e ρ σ).bind fun x σ₁ => oc (tupV x) (fun ds => if l.length = ds.length then .ok (.next (setAll l ds ρ)) σ₁ else .bad) .bad
  | .put o i e, ρ, σ => (evalE G cf e ρ σ).bind fun x σ₁ => (evalE G cf o ρ σ₁).bind fun a σ₂ => (evalE G cf i ρ σ₂).bind fun k σ₃ => oc (pureD x) (fun x => b2 (locV a) (strV k) (fun n k => oc (dctAt σ₃ n) (fun l => if l.length < LIM then .ok (.next ρ) (σ₃.set n (.dct (put1 k x l))) else .bad) .bad) .bad) .bad
  | .aug i e, ρ, σ => oc (ρ[i]?.bind intV) (fun x => (evalE G cf e ρ σ).bind fun y σ₁ => oc (intV y) (fun y => .ok (.next (ρ.set i (.d (.int (x + y))))) σ₁) .bad) .bad
  | .ite c a b, ρ, σ => (evalE G cf c ρ σ).bind fun x σ₁ => (lift (truthy σ₁ x) σ₁).bind fun t σ₁ => if t then execs a ρ σ₁ else execs b ρ σ₁
  | .forr t it b, ρ, σ => (evalIt G cf it ρ σ).bind fun I σ₁ =>
      (loopL (fun x ρ' σ' => match bindT t x ρ' with
        | none => .bad
        | some ρ'' => execs b ρ'' σ') I.shown ρ (lockS I.lk σ₁)).bind fun o σ₂ => .ok o (unlockS I.lk I.base σ₂)
  | .ret e, ρ, σ => (evalE G cf e ρ σ).bind fun x σ₁ => .ok (.ret x) σ₁
  | .pass, ρ, σ => .ok (.next ρ) σ
  | .stop, _, _ => .bad
noncomputable def execs : SL → Fm → Store → Res Out
  | .nil, ρ, σ => .ok (.next ρ) σ
  | .cons s r, ρ, σ => (exec s ρ σ).bind fun o σ₁ => match o with
    | .next ρ₁ => execs r ρ₁ σ₁
    | .ret v => .ok (.ret v) σ₁
end
end

structure Fn where
  name : Str
  np : Nat
  slots : List (Str × Nat)
  ns : Nat
  body : SL

structure Prog where
  G : Nat → Option PyData
  P : Nat → Option Fn

noncomputable def callF (p : Prog) : Nat → Nat → List V → Store → Res V
  | 0, _, _, _ => .bad
  | d + 1, f, args, σ => match p.P f with
    | none => .bad
    | some fn => if args.length = fn.np then
        (execs p.G (callF p d) fn.body (args ++ List.replicate (fn.ns - fn.np) .un) σ).bind fun o σ₁ =>
          exitV σ.length (match o with | .ret v => v | .next _ => .d .none) σ₁
      else .bad

end Mine

set_option autoImplicit false
set_option linter.unusedVariables false
namespace Mine
open PySem

section
variable (G : Nat → Option PyData) (cf : Nat → List V → Store → Res V) (ρ : Fm) (σ : Store)

theorem byR {α : Sort _} {a b : α} (h : a = b) : a = b := h
theorem rb_ok {α β : Type} (a : α) (σ : Store) (f : α → Store → Res β) : (Res.ok a σ).bind f = f a σ := byR rfl
theorem rb_bad {α β : Type} (f : α → Store → Res β) : (Res.bad : Res α).bind f = .bad := byR rfl
theorem lift_some {α : Type} (a : α) : lift (some a) σ = .ok a σ := byR rfl
theorem lift_none {α : Type} : lift (none : Option α) σ = .bad := byR rfl

theorem eE_none : evalE G cf .none ρ σ = .ok (.d .none) σ := byR rfl
theorem eE_bool (b : Bool) : evalE G cf (.bool b) ρ σ = .ok (.d (.bool b)) σ := byR rfl
theorem eE_int (i : Int) : evalE G cf (.int i) ρ σ = .ok (.d (.int i)) σ := byR rfl
theorem eE_str (x : Str) : evalE G cf (.str x) ρ σ = .ok (.d (.str x)) σ := byR rfl
noncomputable def look (o : Option V) (σ : Store) : Res V := match o with
  | some .un => .bad
  | some v => .ok v σ
  | none => .bad
theorem look_d (x : PyData) : look (some (.d x)) σ = .ok (.d x) σ := byR rfl
theorem look_loc (n : Nat) : look (some (.loc n)) σ = .ok (.loc n) σ := byR rfl
theorem look_locs (l : List Nat) : look (some (.locs l)) σ = .ok (.locs l) σ := byR rfl
theorem look_ok {o : Option V} {σ σ' : Store} {c : V} (h : look o σ = .ok c σ') : o = some c ∧ c ≠ .un ∧ σ' = σ := by
  cases o with
  | none => cases h
  | some v => cases v <;> first | (cases h; exact ⟨rfl, (fun q => nomatch q), rfl⟩) | cases h
theorem eE_var (i : Nat) : evalE G cf (.var i) ρ σ = look ρ[i]? σ := byR rfl
theorem eE_glob (g : Nat) : evalE G cf (.glob g) ρ σ = lift ((G g).map V.d) σ := byR rfl
theorem eE_bin (op : BOp) (m : Bool) (a b : E) : evalE G cf (.bin op m a b) ρ σ = (evalE G cf a ρ σ).bind fun x σ₁ => (evalE G cf b ρ σ₁).bind fun y σ₂ => binV op m x y σ₂ := byR rfl
noncomputable def negR (x : V) (σ : Store) : Res V := oc (intV x) (fun i => .ok (.d (.int (-i))) σ) .bad
theorem negR_int (i : Int) : negR (.d (.int i)) σ = .ok (.d (.int (-i))) σ := byR rfl
theorem eE_neg (a : E) : evalE G cf (.neg a) ρ σ = (evalE G cf a ρ σ).bind fun x σ₁ => negR x σ₁ := byR rfl
theorem eE_not (a : E) : evalE G cf (.not a) ρ σ = (evalE G cf a ρ σ).bind fun x σ₁ => lift ((truthy σ₁ x).map fun b => V.d (.bool (!b))) σ₁ := byR rfl
theorem eE_bop (k : Bool) (es : EL) : evalE G cf (.bop k es) ρ σ = evalB G cf k es ρ σ := byR rfl
theorem eB_one (k : Bool) (e : E) : evalB G cf k (.cons e .nil) ρ σ = evalE G cf e ρ σ := byR rfl
noncomputable def pick (k : Bool) (t : Bool) (a b : Res V) : Res V := if t = k then a else b
theorem pick_tt (a b : Res V) : pick true true a b = a := if_pos rfl
theorem pick_ff (a b : Res V) : pick false false a b = a := if_pos rfl
theorem pick_tf (a b : Res V) : pick true false a b = b := if_neg Bool.noConfusion
theorem pick_ft (a b : Res V) : pick false true a b = b := if_neg Bool.noConfusion
theorem eB_more (k : Bool) (e e' : E) (es : EL) : evalB G cf k (.cons e (.cons e' es)) ρ σ = (evalE G cf e ρ σ).bind fun x σ₁ => (lift (truthy σ₁ x) σ₁).bind fun t σ₁ => pick k t (evalB G cf k (.cons e' es) ρ σ₁) (.ok x σ₁) := byR rfl
theorem eE_cmp (op : COp) (a b : E) : evalE G cf (.cmp op a b) ρ σ = (evalE G cf a ρ σ).bind fun x σ₁ => (evalE G cf b ρ σ₁).bind fun y σ₂ => lift ((cmpV op x y σ₂).map fun b => V.d (.bool b)) σ₂ := byR rfl
theorem eE_cmp2 (o₁ o₂ : COp) (a b c : E) : evalE G cf (.cmp2 o₁ o₂ a b c) ρ σ = (evalE G cf a ρ σ).bind fun x σ₁ => (evalE G cf b ρ σ₁).bind fun y σ₂ => (lift (cmpV o₁ x y σ₂) σ₂).bind fun t σ₂ =>
      pick true t ((evalE G cf c ρ σ₂).bind fun z σ₃ => lift ((cmpV o₂ y z σ₃).map fun b => V.d (.bool b)) σ₃) (.ok (.d (.bool false)) σ₂) := byR rfl
theorem eE_ite (c a b : E) : evalE G cf (.ite c a b) ρ σ = (evalE G cf c ρ σ).bind fun x σ₁ => (lift (truthy σ₁ x) σ₁).bind fun t σ₁ => pick true t (evalE G cf a ρ σ₁) (evalE G cf b ρ σ₁) := byR rfl
theorem eE_tup (es : EL) : evalE G cf (.tup es) ρ σ = (evalEL G cf es ρ σ).bind fun vs σ₁ => dispT vs σ₁ := byR rfl
theorem eE_list (m : Bool) (es : EL) : evalE G cf (.list m es) ρ σ = (evalEL G cf es ρ σ).bind fun vs σ₁ => dispL m vs σ₁ := byR rfl
theorem eE_dict0 : evalE G cf .dict0 ρ σ = .ok (.loc σ.length) (σ ++ [.dct []]) := byR rfl
theorem eE_dict1 (k : Str) (i : Int) : evalE G cf (.dict1 k i) ρ σ = .ok (.loc σ.length) (σ ++ [.dct [(k, .int i)]]) := byR rfl
theorem eE_idx (a i : E) : evalE G cf (.idx a i) ρ σ = (evalE G cf a ρ σ).bind fun x σ₁ => (evalE G cf i ρ σ₁).bind fun y σ₂ => lift (idxV x y σ₂) σ₂ := byR rfl
theorem eE_slc (m : Bool) (a : E) (lo hi : EO) : evalE G cf (.slc m a lo hi) ρ σ = (evalE G cf a ρ σ).bind fun x σ₁ => (evalEO G cf lo ρ σ₁).bind fun l σ₂ => (evalEO G cf hi ρ σ₂).bind fun h σ₃ => slcV m x l h σ₃ := byR rfl
theorem eE_call (f : Nat) (es : EL) : evalE G cf (.call f es) ρ σ = (evalEL G cf es ρ σ).bind fun vs σ₁ => cf f vs σ₁ := byR rfl
theorem eE_bi (b : Bi) (m : Bool) (es : EL) : evalE G cf (.bi b m es) ρ σ = (evalEL G cf es ρ σ).bind fun vs σ₁ => biV b m vs σ₁ := byR rfl
noncomputable def pickB (b : Bool) {α : Type} (r : Res α) : Res α := if b then r else .bad
theorem pickB_t {α : Type} (r : Res α) : pickB true r = r := if_pos rfl
theorem eE_meth (b : Me) (o : E) (es : EL) : evalE G cf (.meth b o es) ρ σ = (evalE G cf o ρ σ).bind fun x σ₁ => pickB (meOk b σ₁ x) ((evalEL G cf es ρ σ₁).bind fun vs σ₂ => meV b x vs σ₂) := byR rfl
theorem eE_freeze (e : E) : evalE G cf (.freeze e) ρ σ = (evalE G cf e ρ σ).bind fun x σ₁ => frz x σ₁ := byR rfl
theorem eL_nil : evalEL G cf .nil ρ σ = .ok [] σ := byR rfl
theorem eL_cons (e : E) (es : EL) : evalEL G cf (.cons e es) ρ σ = (evalE G cf e ρ σ).bind fun x σ₁ => (evalEL G cf es ρ σ₁).bind fun xs σ₂ => .ok (x :: xs) σ₂ := byR rfl
theorem eO_no : evalEO G cf .no ρ σ = .ok none σ := byR rfl
theorem eO_yes (e : E) : evalEO G cf (.yes e) ρ σ = (evalE G cf e ρ σ).bind fun x σ₁ => .ok (some x) σ₁ := byR rfl
theorem eI_seq (e : E) : evalIt G cf (.seq e) ρ σ = (evalE G cf e ρ σ).bind fun x σ₁ => lift ((openV x σ₁).map fun p => ⟨p.1, p.1, p.2⟩) σ₁ := byR rfl
noncomputable def rangeR (x : V) (σ : Store) : Res Items := oc (intV x) (fun b => if -100000 ≤ b ∧ b ≤ 100000 then .ok ⟨rangeL 0 b, [], none⟩ σ else .bad) .bad
theorem rangeR_ok {x : V} {σ σ' : Store} {I : Items} (h : rangeR x σ = .ok I σ') : ∃ b : Int, x = .d (.int b) ∧ (-100000 ≤ b ∧ b ≤ 100000) ∧ I = ⟨rangeL 0 b, [], none⟩ ∧ σ' = σ := by
  unfold rangeR at h
  rcases oc_cases (intV x) (fun b => if -100000 ≤ b ∧ b ≤ 100000 then Res.ok (⟨rangeL 0 b, [], none⟩ : Items) σ else .bad) .bad with ⟨b, hb, e⟩ | e
  · rw [e] at h
    by_cases hc : -100000 ≤ b ∧ b ≤ 100000
    · rw [if_pos hc] at h; cases h; exact ⟨b, intV_ok hb, hc, rfl, rfl⟩
    · rw [if_neg hc] at h; cases h
  · rw [e] at h; cases h
noncomputable def range2R (x y : V) (σ : Store) : Res Items := b2 (intV x) (intV y) (fun a b => if (-100000 ≤ a ∧ a ≤ 100000) ∧ (-100000 ≤ b ∧ b ≤ 100000) then .ok ⟨rangeL a b, [], none⟩ σ else .bad) .bad
theorem range2R_ok {x y : V} {σ σ' : Store} {I : Items} (h : range2R x y σ = .ok I σ') : ∃ a b : Int, x = .d (.int a) ∧ y = .d (.int b) ∧ ((-100000 ≤ a ∧ a ≤ 100000) ∧ (-100000 ≤ b ∧ b ≤ 100000)) ∧ I = ⟨rangeL a b, [], none⟩ ∧ σ' = σ := by
  unfold range2R at h
  rcases b2_cases (intV x) (intV y) (fun a b => if (-100000 ≤ a ∧ a ≤ 100000) ∧ (-100000 ≤ b ∧ b ≤ 100000) then Res.ok (⟨rangeL a b, [], none⟩ : Items) σ else .bad) .bad with ⟨a, b, ha, hb, e⟩ | e
  · rw [e] at h
    by_cases hc : (-100000 ≤ a ∧ a ≤ 100000) ∧ (-100000 ≤ b ∧ b ≤ 100000)
    · rw [if_pos hc] at h; cases h; exact ⟨a, b, intV_ok ha, intV_ok hb, hc, rfl, rfl⟩
    · rw [if_neg hc] at h; cases h
  · rw [e] at h; cases h
theorem eI_range2 (e₁ e₂ : E) : evalIt G cf (.range2 e₁ e₂) ρ σ = (evalE G cf e₁ ρ σ).bind fun x σ₁ => (evalE G cf e₂ ρ σ₁).bind fun y σ₂ => range2R x y σ₂ := byR rfl
theorem rangeR_int {b : Int} (h : -100000 ≤ b ∧ b ≤ 100000) : rangeR (.d (.int b)) σ = .ok ⟨rangeL 0 b, [], none⟩ σ := if_pos h
theorem eI_range (e : E) : evalIt G cf (.range e) ρ σ = (evalE G cf e ρ σ).bind fun x σ₁ => rangeR x σ₁ := byR rfl

noncomputable def noneR (v : V) (r : Res Out) : Res Out := oc (noneV v) (fun _ => r) .bad
theorem noneR_none (r : Res Out) : noneR (.d .none) r = r := byR rfl
theorem oc_ok {α γ : Type} {o : Option α} {f : α → Res γ} {c : γ} {σ' : Store} (h : oc o f .bad = .ok c σ') : ∃ a, o = some a ∧ f a = .ok c σ' := by
  cases o with
  | none => cases h
  | some a => exact ⟨a, rfl, h⟩
theorem b2_ok {α β γ : Type} {o : Option α} {p : Option β} {f : α → β → Res γ} {c : γ} {σ' : Store} (h : b2 o p f .bad = .ok c σ') : ∃ a b, o = some a ∧ p = some b ∧ f a b = .ok c σ' := by
  obtain ⟨a, ha, h⟩ := oc_ok h
  obtain ⟨b, hb, h⟩ := oc_ok h
  exact ⟨a, b, ha, hb, h⟩
theorem if_ok {γ : Type} {c : Prop} [Decidable c] {r : Res γ} {x : γ} {σ' : Store} (h : (if c then r else .bad) = .ok x σ') : c ∧ r = .ok x σ' := by
  by_cases hc : c
  · rw [if_pos hc] at h; exact ⟨hc, h⟩
  · rw [if_neg hc] at h; cases h
theorem x_expr (e : E) : exec G cf (.expr e) ρ σ = (evalE G cf e ρ σ).bind fun v σ₁ => noneR v (.ok (.next ρ) σ₁) := byR rfl
theorem x_asg (i : Nat) (e : E) : exec G cf (.asg (.var i) e) ρ σ = (evalE G cf e ρ σ).bind fun x σ₁ => .ok (.next (ρ.set i x)) σ₁ := byR rfl
theorem x_asgT (l : List Nat) (e : E) : exec G cf (.asgT l e) ρ σ = (evalE G cf e ρ σ).bind fun x σ₁ => oc (tupV x) (fun ds => if l.length = ds.length then .ok (.next (setAll l ds ρ)) σ₁ else .bad) .bad := byR rfl
noncomputable def pickO (t : Bool) (a b : Res Out) : Res Out := if t then a else b
theorem pickO_t (a b : Res Out) : pickO true a b = a := if_pos rfl
theorem pickO_f (a b : Res Out) : pickO false a b = b := if_neg Bool.noConfusion
theorem x_ite (c : E) (a b : SL) : exec G cf (.ite c a b) ρ σ = (evalE G cf c ρ σ).bind fun x σ₁ => (lift (truthy σ₁ x) σ₁).bind fun t σ₁ => pickO t (execs G cf a ρ σ₁) (execs G cf b ρ σ₁) := byR rfl
theorem x_aug (i : Nat) (e : E) : exec G cf (.aug i e) ρ σ = oc (ρ[i]?.bind intV) (fun x => (evalE G cf e ρ σ).bind fun y σ₁ => oc (intV y) (fun y => .ok (.next (ρ.set i (.d (.int (x + y))))) σ₁) .bad) .bad := byR rfl
theorem x_ret (e : E) : exec G cf (.ret e) ρ σ = (evalE G cf e ρ σ).bind fun x σ₁ => .ok (.ret x) σ₁ := byR rfl
theorem x_pass : exec G cf .pass ρ σ = .ok (.next ρ) σ := byR rfl
noncomputable def putR (x a k : V) (ρ : Fm) (σ₃ : Store) : Res Out := oc (pureD x) (fun x => b2 (locV a) (strV k) (fun n k => oc (dctAt σ₃ n) (fun l => if l.length < LIM then .ok (.next ρ) (σ₃.set n (.dct (put1 k x l))) else .bad) .bad) .bad) .bad
theorem putR_ok {x : PyData} {n : Nat} {k : Str} {l : List (Str × PyData)} (hc : σ[n]? = some (.dct l)) (hl : l.length < LIM) : putR (.d x) (.loc n) (.d (.str k)) ρ σ = .ok (.next ρ) (σ.set n (.dct (put1 k x l))) := by
  show oc (dctAt σ n) (fun l => if l.length < LIM then Res.ok (Out.next ρ) (σ.set n (.dct (put1 k x l))) else .bad) .bad = _
  rw [dctAt_is hc]; exact if_pos hl
theorem x_put (o i e : E) : exec G cf (.put o i e) ρ σ = (evalE G cf e ρ σ).bind fun x σ₁ => (evalE G cf o ρ σ₁).bind fun a σ₂ => (evalE G cf i ρ σ₂).bind fun k σ₃ => putR x a k ρ σ₃ := byR rfl
noncomputable def stepO (G : Nat → Option PyData) (cf : Nat → List V → Store → Res V) (r : SL) (o : Out) (σ : Store) : Res Out := match o with
  | .next ρ₁ => execs G cf r ρ₁ σ
  | .ret v => .ok (.ret v) σ
theorem stepO_next (r : SL) : stepO G cf r (.next ρ) σ = execs G cf r ρ σ := byR rfl
theorem stepO_ret (r : SL) (v : V) : stepO G cf r (.ret v) σ = .ok (.ret v) σ := byR rfl
theorem xs_nil : execs G cf .nil ρ σ = .ok (.next ρ) σ := byR rfl
theorem xs_cons (s : S) (r : SL) : execs G cf (.cons s r) ρ σ = (exec G cf s ρ σ).bind fun o σ₁ => stepO G cf r o σ₁ := byR rfl

noncomputable def loopF' (G : Nat → Option PyData) (cf : Nat → List V → Store → Res V) (i : Nat) (b : SL) : PyData → Fm → Store → Res Out := fun x ρ' σ' => execs G cf b (ρ'.set i (.d x)) σ'
theorem x_for (i : Nat) (it : It) (b : SL) : exec G cf (.forr (.var i) it b) ρ σ = (evalIt G cf it ρ σ).bind fun I σ₁ => (loopL (loopF' G cf i b) I.shown ρ (lockS I.lk σ₁)).bind fun o σ₂ => .ok o (unlockS I.lk I.base σ₂) := byR rfl
noncomputable def nextO (f : PyData → Fm → Store → Res Out) (xs : List PyData) (o : Out) (σ : Store) : Res Out := match o with
  | .next ρ₁ => loopL f xs ρ₁ σ
  | .ret v => .ok (.ret v) σ
theorem nextO_next (f : PyData → Fm → Store → Res Out) (xs : List PyData) : nextO f xs (.next ρ) σ = loopL f xs ρ σ := byR rfl
theorem lo_nil (f : PyData → Fm → Store → Res Out) : loopL f [] ρ σ = .ok (.next ρ) σ := byR rfl
theorem lo_cons (f : PyData → Fm → Store → Res Out) (x : PyData) (xs : List PyData) : loopL f (x :: xs) ρ σ = (f x ρ σ).bind fun o σ₁ => nextO f xs o σ₁ := byR rfl

noncomputable def compF' (G : Nat → Option PyData) (cf : Nat → List V → Store → Res V) (i : Nat) (c : EO) (e : E) (ρ : Fm) : PyData → Store → Res (Option PyData) := fun x σ' =>
  (evalEO G cf c (ρ.set i (.d x)) σ').bind fun cv σ₂ => match cv with
    | none => (evalE G cf e (ρ.set i (.d x)) σ₂).bind fun y σ₃ => lift ((pureD y).map some) σ₃
    | some cv => (lift (truthy σ₂ cv) σ₂).bind fun b σ₂ => if b then (evalE G cf e (ρ.set i (.d x)) σ₂).bind fun y σ₃ => lift ((pureD y).map some) σ₃ else .ok none σ₂
theorem eE_comp (m : Bool) (i : Nat) (it : It) (c : EO) (e : E) : evalE G cf (.comp m (.var i) it c e) ρ σ = (evalIt G cf it ρ σ).bind fun I σ₁ =>
      (compL (compF' G cf i c e ρ) I.shown (lockS I.lk σ₁ ++ [.busy])).bind fun r σ₂ => mkList m r ((unlockS I.lk I.base σ₂).take σ₁.length) := byR rfl
end

theorem cL_cons (f : PyData → Store → Res (Option PyData)) (x : PyData) (xs : List PyData) (σ : Store) : compL f (x :: xs) σ = (f x σ).bind fun o σ₁ => (compL f xs σ₁).bind fun r σ₂ => .ok (o.toList ++ r) σ₂ := byR rfl
/-- a comprehension whose turns leave the store -/
theorem compL_map {f : PyData → Store → Res (Option PyData)} {g : PyData → Option PyData} {σ : Store} : ∀ {l : List PyData}, (∀ x ∈ l, f x σ = .ok (g x) σ) → compL f l σ = .ok (l.filterMap g) σ
  | [], _ => rfl
  | x :: l, h => by
    show (f x σ).bind (fun o σ₁ => (compL f l σ₁).bind fun r σ₂ => .ok (o.toList ++ r) σ₂) = _
    rw [h x (List.mem_cons_self ..), rb_ok, compL_map fun y hy => h y (List.mem_cons_of_mem _ hy), rb_ok, List.filterMap_cons]
    cases g x <;> rfl

/-! values -/
section
variable (σ : Store) (m : Bool)
theorem b_add (x y : Int) : binV .add m (.d (.int x)) (.d (.int y)) σ = .ok (.d (.int (x + y))) σ := byR rfl
theorem b_sub (x y : Int) : binV .sub m (.d (.int x)) (.d (.int y)) σ = .ok (.d (.int (x - y))) σ := byR rfl
theorem b_mul {x y : Int} (h : mulOk x y = true) : binV .mul m (.d (.int x)) (.d (.int y)) σ = .ok (.d (.int (x * y))) σ := if_pos h
theorem b_fdiv {x y : Int} (h : 0 < y ∧ y < 9223372036854775808) : binV .fdiv m (.d (.int x)) (.d (.int y)) σ = .ok (.d (.int (x / y))) σ := if_pos h
theorem b_mod {x y : Int} (h : 0 < y) : binV .mod m (.d (.int x)) (.d (.int y)) σ = .ok (.d (.int (x % y))) σ := if_pos h
theorem t_bool (b : Bool) : truthy σ (.d (.bool b)) = some b := byR rfl
theorem c_lt (x y : Int) : cmpV .lt (.d (.int x)) (.d (.int y)) σ = some (decide (x < y)) := byR rfl
theorem eqD_flat {a b : PyData} (h : min a.depth b.depth ≤ 64) : eqD a b = some (a.eqv b) := if_pos h
theorem c_eqI (x y : Int) : cmpV .eq (.d (.int x)) (.d (.int y)) σ = some (decide (x = y)) := by
  refine (eqD_flat (a := .int x) (b := .int y) (Nat.le_of_ble_eq_true rfl)).trans ?_
  exact byR rfl
theorem c_eqS (x y : Str) : cmpV .eq (.d (.str x)) (.d (.str y)) σ = some (decide (x = y)) := by
  refine (eqD_flat (a := .str x) (b := .str y) (Nat.le_of_ble_eq_true rfl)).trans ?_
  exact byR rfl
theorem c_neS (x y : Str) : cmpV .ne (.d (.str x)) (.d (.str y)) σ = some (!decide (x = y)) := by
  have h : eqV σ (.d (.str x)) (.d (.str y)) = some (decide (x = y)) := c_eqS σ x y
  have e : cmpV .ne (.d (.str x)) (.d (.str y)) σ = (eqV σ (.d (.str x)) (.d (.str y))).map (!·) := rfl
  rw [e, h]; rfl
theorem o_map {α β : Type} (f : α → β) (a : α) : (some a).map f = some (f a) := rfl
theorem len_list (l : List PyData) : biV .len m [.d (.list l)] σ = .ok (.d (.int l.length)) σ := byR rfl
theorem len_str (x : Str) : biV .len m [.d (.str x)] σ = .ok (.d (.int (strL x).length)) σ := byR rfl
end
/-! values: the shapes that the laws use -/
section
variable (σ : Store) (m : Bool)
theorem idx_tup (l : List PyData) (i : Int) : idxV (.d (.tuple l)) (.d (.int i)) σ = (index l.length i).bind fun k => (l[k]?).map V.d := byR rfl
theorem idx_tupN (l : List PyData) (k : Nat) : idxV (.d (.tuple l)) (.d (.int (k : Int))) σ = (l[k]?).map V.d := by
  rw [idx_tup]
  unfold index
  rw [if_pos (Int.natCast_nonneg k)]
  by_cases h : k < l.length
  · rw [if_pos (Int.ofNat_lt.mpr h)]; rfl
  · rw [if_neg (fun q => h (Int.ofNat_lt.mp q)), List.getElem?_eq_none (Nat.le_of_not_lt h)]; rfl
theorem idx_str (x : Str) (i : Int) : idxV (.d (.str x)) (.d (.int i)) σ = (index (strL x).length i).bind fun k => ((strL x)[k]?).map fun c => V.d (.str (strOfL [c])) := byR rfl
theorem idx_list {l : List PyData} {i : Int} (h0 : 0 ≤ i) : idxV (.d (.list l)) (.d (.int i)) σ = (l[i.toNat]?).map V.d := if_pos h0
variable {σ} {n : Nat}
theorem listOf_loc {l : List PyData} (h : σ[n]? = some (.lst l)) : listOf σ (.loc n) = some l := lstAt_is h
theorem dctOf_loc {l : List (Str × PyData)} (h : σ[n]? = some (.dct l)) : dctOf σ (.loc n) = some l := dctAt_is h
theorem open_list (l : List PyData) (σ : Store) : openV (.d (.list l)) σ = some (l, none) := byR rfl
theorem open_tup (l : List PyData) (σ : Store) : openV (.d (.tuple l)) σ = some (l, none) := byR rfl
theorem open_loc {l : List PyData} (h : σ[n]? = some (.lst l)) : openV (.loc n) σ = some (l, some n) := by
  show (lstAt σ n).map (fun l => (l, some n)) = _
  rw [lstAt_is h]; rfl
theorem depth_str (x : Str) : (PyData.str x).depth = 0 := byR rfl
theorem depth_int (x : Int) : (PyData.int x).depth = 0 := byR rfl
theorem depth_list (l : List PyData) : (PyData.list l).depth = PyData.depthAll l + 1 := byR rfl
theorem depth_tup (l : List PyData) : (PyData.tuple l).depth = PyData.depthAll l + 1 := byR rfl
theorem dA_nil : PyData.depthAll [] = 0 := byR rfl
theorem dA_cons (x : PyData) (l : List PyData) : PyData.depthAll (x :: l) = max x.depth (PyData.depthAll l) := byR rfl
theorem eqv_str (x y : Str) : (PyData.str x).eqv (.str y) = decide (x = y) := byR rfl
theorem eqv_int' (x y : Int) : (PyData.int x).eqv (.int y) = decide (x = y) := byR rfl
theorem eqv_list (a b : List PyData) : (PyData.list a).eqv (.list b) = PyData.eqvAll a b := byR rfl
theorem eqv_tup (a b : List PyData) : (PyData.tuple a).eqv (.tuple b) = PyData.eqvAll a b := byR rfl
theorem eA_nil : PyData.eqvAll [] [] = true := byR rfl
theorem eA_cons (x y : PyData) (a b : List PyData) : PyData.eqvAll (x :: a) (y :: b) = (x.eqv y && PyData.eqvAll a b) := byR rfl
theorem c_ne (a b : V) : cmpV .ne a b σ = (eqV σ a b).map (!·) := byR rfl
theorem c_eq (a b : V) : cmpV .eq a b σ = eqV σ a b := byR rfl
theorem c_in (a b : V) : cmpV .isIn a b σ = cmpV.inV a b σ := byR rfl
theorem c_notIn (a b : V) : cmpV .notIn a b σ = (cmpV.inV a b σ).map (!·) := byR rfl
theorem inL1_str (x : Str) (l : List PyData) : inL1 (.str x) l = some (l.any fun y => y.eqv (.str x)) := if_pos (Nat.le_trans (Nat.min_le_right _ _) (Nat.zero_le _))
theorem in_loc {l : List PyData} (x : Str) (h : σ[n]? = some (.lst l)) : cmpV.inV (.d (.str x)) (.loc n) σ = some (l.any fun y => y.eqv (.str x)) := by
  show oc (listOf σ (.loc n)) (fun l => inL1 (.str x) l) _ = _
  rw [listOf_loc h]; exact inL1_str x l
theorem in_list {l : List PyData} (x : Str) : cmpV.inV (.d (.str x)) (.d (.list l)) σ = some (l.any fun y => y.eqv (.str x)) := inL1_str x l
theorem in_tup {l : List PyData} (x : Str) : cmpV.inV (.d (.str x)) (.d (.tuple l)) σ = some (l.any fun y => y.eqv (.str x)) := inL1_str x l
theorem in_dct {l : List (Str × PyData)} (x : Str) (h : σ[n]? = some (.dct l)) : cmpV.inV (.d (.str x)) (.loc n) σ = some (l.lookup x).isSome := by
  have e : listOf σ (.loc n) = none := by
    show σ[n]?.bind lstC = _
    rw [h]; rfl
  show oc (listOf σ (.loc n)) (fun l => inL1 (.str x) l) (oc (dctOf σ (.loc n)) (fun kvs => some (kvs.lookup x).isSome) none) = _
  rw [e, dctOf_loc h]; rfl
theorem app_ok {l : List PyData} (h : σ[n]? = some (.lst l)) (hl : l.length < LIM) (x : PyData) : meV .append (.loc n) [.d x] σ = .ok (.d .none) (σ.set n (.lst (l ++ [x]))) := by
  show oc (lstAt σ n) (fun l => if l.length < LIM then Res.ok (V.d .none) (σ.set n (.lst (l ++ [x]))) else .bad) .bad = _
  rw [lstAt_is h]; exact if_pos hl
theorem update_ok {x y : List (Str × PyData)} {k : Nat} (h : σ[n]? = some (.dct x)) (hk : σ[k]? = some (.dct y)) (hn : n ≠ k) (hl : x.length + y.length ≤ LIM) : meV .update (.loc n) [.loc k] σ = .ok (.d .none) (σ.set n (.dct (putAll x y))) := by
  show (if n ≠ k then b2 (dctAt σ n) (dctAt σ k) (fun x y => if x.length + y.length ≤ LIM then Res.ok (V.d .none) (σ.set n (.dct (putAll x y))) else .bad) .bad else .bad) = _
  rw [if_pos hn, dctAt_is h, dctAt_is hk]; exact if_pos hl
theorem meOk_app {l : List PyData} (h : σ[n]? = some (.lst l)) : meOk .append σ (.loc n) = true := by
  show (listOf σ (.loc n)).isSome = true
  rw [listOf_loc h]; rfl
theorem meOk_get {kvs : List (Str × PyData)} (h : σ[n]? = some (.dct kvs)) : meOk .get σ (.loc n) = true := by
  show (dctOf σ (.loc n)).isSome = true
  rw [dctOf_loc h]; rfl
theorem ty_list (m : Bool) (l : List PyData) (σ : Store) : biV (.isinst .list) m [.d (.list l)] σ = .ok (.d (.bool true)) σ := byR rfl
theorem ty_int (m : Bool) (i : Int) (σ : Store) : biV (.isinst .int) m [.d (.int i)] σ = .ok (.d (.bool true)) σ := byR rfl
theorem ty_ib (m : Bool) (i : Int) (σ : Store) : biV (.isinst .bool) m [.d (.int i)] σ = .ok (.d (.bool false)) σ := byR rfl
theorem ty_str (m : Bool) (x : Str) (σ : Store) : biV (.isinst .str) m [.d (.str x)] σ = .ok (.d (.bool true)) σ := byR rfl
theorem ty_loc (m : Bool) {l : List PyData} (h : σ[n]? = some (.lst l)) : biV (.isinst .list) m [.loc n] σ = .ok (.d (.bool true)) σ := by
  have e : tyV .list σ (.loc n) = some true := by
    show (lstAt σ n).map (fun _ => true) = _
    rw [lstAt_is h]; rfl
  show oc (tyV .list σ (.loc n)) (fun b => Res.ok (V.d (.bool b)) σ) .bad = _
  rw [e]; rfl
theorem b_addL {a b : List PyData} (h : a.length + b.length ≤ LIM) (m : Bool) (σ : Store) : binV .add m (.d (.list a)) (.d (.list b)) σ = mkList m (a ++ b) σ := if_pos h
theorem b_addT {a b : List PyData} (h : a.length + b.length ≤ LIM) (m : Bool) (σ : Store) : binV .add m (.d (.tuple a)) (.d (.tuple b)) σ = .ok (.d (.tuple (a ++ b))) σ := if_pos h
theorem b_cat {x y : Str} (h : x.cps.size + y.cps.size ≤ LIM) (m : Bool) (σ : Store) : binV .add m (.d (.str x)) (.d (.str y)) σ = .ok (.d (.str (strOfL (strL x ++ strL y)))) σ := if_pos h
theorem b_mulS {y : Str} {n : Int} (h : 0 ≤ n ∧ n ≤ 1000 ∧ y.cps.size ≤ 1000) (m : Bool) (σ : Store) : binV .mul m (.d (.str y)) (.d (.int n)) σ = .ok (.d (.str (strOfL (List.replicate n.toNat (strL y)).flatten))) σ := if_pos h
theorem slc_str (m : Bool) (x : Str) {lo hi : Option V} {l h : Option Int} (hl : optInt lo = some l) (hh : optInt hi = some h) (σ : Store) : slcV m (.d (.str x)) lo hi σ = .ok (.d (.str (strOfL (sliceL (strL x) l h)))) σ := by
  show (match optInt lo, optInt hi with
  | some l, some h => Res.ok (V.d (.str (strOfL (sliceL (strL x) l h)))) σ
  | _, _ => .bad) = _
  rw [hl, hh]
theorem dispL_nil (m : Bool) (σ : Store) : dispL m [] σ = mkList m [] σ := byR rfl
theorem dispL_one (m : Bool) (x : PyData) (σ : Store) : dispL m [.d x] σ = mkList m [x] σ := byR rfl
theorem dispT_two (a b : PyData) (σ : Store) : dispT [.d a, .d b] σ = .ok (.d (.tuple [a, b])) σ := byR rfl
theorem dispT_three (a b c : PyData) (σ : Store) : dispT [.d a, .d b, .d c] σ = .ok (.d (.tuple [a, b, c])) σ := byR rfl
theorem dispL_three (a b c : PyData) (σ : Store) : dispL false [.d a, .d b, .d c] σ = .ok (.d (.list [a, b, c])) σ := byR rfl
theorem dispL_two (a b : PyData) (σ : Store) : dispL false [.d a, .d b] σ = .ok (.d (.list [a, b])) σ := byR rfl
theorem eqV_loc {l : List PyData} (h : σ[n]? = some (.lst l)) (y : PyData) : eqV σ (.loc n) (.d y) = eqD (.list l) y := by
  have e : asD σ (.loc n) = some (.list l) := by
    show (lstAt σ n).map PyData.list = _
    rw [lstAt_is h]; rfl
  unfold eqV
  rw [e]; rfl
theorem eqV_dct {k : Nat} {a b : List (Str × PyData)} (h1 : σ[n]? = some (.dct a)) (h2 : σ[k]? = some (.dct b)) : eqV σ (.loc n) (.loc k) = if (a.all fun kv => flatD kv.2) && (b.all fun kv => flatD kv.2) then some (a.length == b.length && dctSub a b) else none := by
  have e1 : asD σ (.loc n) = none := by
    show (σ[n]?.bind lstC).map PyData.list = _
    rw [h1]; rfl
  unfold eqV
  rw [e1, dctOf_loc h1, dctOf_loc h2]
theorem frz_at {l : List PyData} (h : σ[n]? = some (.lst l)) : frz (.loc n) σ = .ok (.d (.list l)) (σ.set n .gone) := by
  show oc (lstAt σ n) (fun l => Res.ok (V.d (.list l)) (σ.set n .gone)) .bad = _
  rw [lstAt_is h]; rfl
end
end Mine

set_option autoImplicit false
set_option linter.unusedVariables false
namespace Mine
open PySem

abbrev listO (vs : Array Value) (n : Nat) : Obj := { cls := .type "list", dict := none, data := .seq vs n, slots := #[] }
abbrev tupO (vs : Array Value) (n : Nat) : Obj := { cls := .type "tuple", dict := none, data := .seq vs n, slots := #[] }

/-! ## data in the heap -/
noncomputable def strGood (x : Str) : Prop := PyData.strOk x = true ∧ x.cps.size ≤ LIM
mutual
inductive Rel (T : Addr → Prop) (h : Heap) : Value → PyData → Prop
  | none : Rel T h .none .none
  | bool (b : Bool) : Rel T h (.bool b) (.bool b)
  | int (i : Int) (t : Tok) : Rel T h (.int i t) (.int i)
  | str (x : Str) (t : Tok) : strGood x → Rel T h (.str x t) (.str x)
  | list {a : Addr} {vs : Array Value} {n : Nat} {xs : List PyData} : h.get? a = some (listO vs n) → ¬ T a → xs.length ≤ LIM → RelAll T h vs.toList xs → Rel T h (.ref a) (.list xs)
  | tuple {a : Addr} {vs : Array Value} {n : Nat} {xs : List PyData} : h.get? a = some (tupO vs n) → ¬ T a → xs.length ≤ LIM → RelAll T h vs.toList xs → Rel T h (.ref a) (.tuple xs)
inductive RelAll (T : Addr → Prop) (h : Heap) : List Value → List PyData → Prop
  | nil : RelAll T h [] []
  | cons {v : Value} {vs : List Value} {d : PyData} {ds : List PyData} : Rel T h v d → RelAll T h vs ds → RelAll T h (v :: vs) (d :: ds)
end

noncomputable def seqAt (h : Heap) (a : Addr) : Prop := ∃ o vs n, h.get? a = some o ∧ o.data = .seq vs n

section
variable {T T' : Addr → Prop} {h h' : Heap}
mutual
theorem Rel.mono (H : ∀ a o vs n, h.get? a = some o → o.data = .seq vs n → ¬ T a → h'.get? a = some o ∧ ¬ T' a) : ∀ {v : Value} {d : PyData}, Rel T h v d → Rel T' h' v d
  | _, _, .none => .none
  | _, _, .bool b => .bool b
  | _, _, .int i t => .int i t
  | _, _, .str x t e => .str x t e
  | _, _, .list ho ht hl r => .list (H _ _ _ _ ho rfl ht).1 (H _ _ _ _ ho rfl ht).2 hl (RelAll.mono H r)
  | _, _, .tuple ho ht hl r => .tuple (H _ _ _ _ ho rfl ht).1 (H _ _ _ _ ho rfl ht).2 hl (RelAll.mono H r)
theorem RelAll.mono (H : ∀ a o vs n, h.get? a = some o → o.data = .seq vs n → ¬ T a → h'.get? a = some o ∧ ¬ T' a) : ∀ {vs : List Value} {ds : List PyData}, RelAll T h vs ds → RelAll T' h' vs ds
  | _, _, .nil => .nil
  | _, _, .cons r rs => .cons (Rel.mono H r) (RelAll.mono H rs)
end
mutual
theorem Rel.reads : ∀ {v : Value} {d : PyData}, Rel T h v d → ∃ as, Reads h v d as
  | _, _, .none => ⟨_, .none⟩
  | _, _, .bool b => ⟨_, .bool b⟩
  | _, _, .int i t => ⟨_, .int i t⟩
  | _, _, .str x t _ => ⟨_, .str x t⟩
  | _, _, .list ho _ _ r => let ⟨as, q⟩ := RelAll.reads r; ⟨_, .list ho rfl rfl q⟩
  | _, _, .tuple ho _ _ r => let ⟨as, q⟩ := RelAll.reads r; ⟨_, .tuple ho rfl rfl q⟩
theorem RelAll.reads : ∀ {vs : List Value} {ds : List PyData}, RelAll T h vs ds → ∃ as, ReadsAll h vs ds as
  | _, _, .nil => ⟨_, .nil⟩
  | _, _, .cons r rs => let ⟨_, p⟩ := Rel.reads r; let ⟨_, q⟩ := RelAll.reads rs; ⟨_, .cons p q⟩
end
mutual
theorem Rel.lay : ∀ {v : Value} {d : PyData}, Rel T h v d → d.canLay0 = true
  | _, _, .none => rfl
  | _, _, .bool b => rfl
  | _, _, .int i t => rfl
  | _, _, .str x t e => by simpa [PyData.canLay0] using e.1
  | _, _, .list _ _ _ r => by simpa [PyData.canLay0] using RelAll.lay r
  | _, _, .tuple _ _ _ r => by simpa [PyData.canLay0] using RelAll.lay r
theorem RelAll.lay : ∀ {vs : List Value} {ds : List PyData}, RelAll T h vs ds → PyData.canLayAll0 ds = true
  | _, _, .nil => rfl
  | _, _, .cons r rs => by simp [PyData.canLayAll0, Rel.lay r, RelAll.lay rs]
end
theorem RelAll.inv {d : PyData} {vs : List Value} {ds : List PyData} (r : RelAll T h vs (d :: ds)) : ∃ v vs', vs = v :: vs' ∧ Rel T h v d ∧ RelAll T h vs' ds := by
  cases r with
  | cons r rs => exact ⟨_, _, rfl, r, rs⟩
theorem RelAll.inv0 {vs : List Value} (r : RelAll T h vs []) : vs = [] := by cases r; rfl
theorem RelAll.length {vs : List Value} {ds : List PyData} (r : RelAll T h vs ds) : vs.length = ds.length := by
  induction ds generalizing vs with
  | nil => rw [r.inv0]; rfl
  | cons d ds ih =>
    obtain ⟨v, vs', rfl, _, rs⟩ := r.inv
    rw [List.length_cons, List.length_cons, ih rs]
theorem RelAll.append {vs ws : List Value} {ds es : List PyData} (r : RelAll T h vs ds) (q : RelAll T h ws es) : RelAll T h (vs ++ ws) (ds ++ es) := by
  induction ds generalizing vs with
  | nil => rw [r.inv0]; exact q
  | cons d ds ih =>
    obtain ⟨v, vs', rfl, r, rs⟩ := r.inv
    exact .cons r (ih rs)
theorem RelAll.get {vs : List Value} {ds : List PyData} (r : RelAll T h vs ds) {k : Nat} {d : PyData} (e : ds[k]? = some d) : ∃ v, vs[k]? = some v ∧ Rel T h v d := by
  induction ds generalizing vs k with
  | nil => cases e
  | cons d' ds ih =>
    obtain ⟨v, vs', rfl, r, rs⟩ := r.inv
    cases k with
    | zero => cases e; exact ⟨_, rfl, r⟩
    | succ k => exact ih rs e
theorem RelAll.getV {vs : List Value} {ds : List PyData} (r : RelAll T h vs ds) {k : Nat} {v : Value} (e : vs[k]? = some v) : ∃ d, ds[k]? = some d ∧ Rel T h v d := by
  have hk : k < ds.length := by rw [← r.length]; exact (List.getElem?_eq_some_iff.mp e).1
  obtain ⟨w, hw, q⟩ := r.get (List.getElem?_eq_getElem hk)
  rw [e] at hw
  cases hw
  exact ⟨_, List.getElem?_eq_getElem hk, q⟩
theorem RelAll.drop {vs : List Value} {ds : List PyData} (k : Nat) (r : RelAll T h vs ds) : RelAll T h (vs.drop k) (ds.drop k) := by
  induction k generalizing vs ds with
  | zero => exact r
  | succ k ih => cases ds with
    | nil => rw [r.inv0]; exact .nil
    | cons d ds =>
      obtain ⟨v, vs', rfl, _, rs⟩ := r.inv
      exact ih rs
theorem RelAll.take {vs : List Value} {ds : List PyData} (k : Nat) (r : RelAll T h vs ds) : RelAll T h (vs.take k) (ds.take k) := by
  induction k generalizing vs ds with
  | zero => exact .nil
  | succ k ih => cases ds with
    | nil => rw [r.inv0]; exact .nil
    | cons d ds =>
      obtain ⟨v, vs', rfl, r, rs⟩ := r.inv
      exact .cons r (ih rs)
theorem RelAll.one {v : Value} {d : PyData} (r : Rel T h v d) : RelAll T h [v] [d] := .cons r .nil
theorem RelAll.mem {vs : List Value} {ds : List PyData} (r : RelAll T h vs ds) {v : Value} (hv : v ∈ vs) : ∃ d, d ∈ ds ∧ Rel T h v d := by
  obtain ⟨k, hk⟩ := List.getElem?_of_mem hv
  obtain ⟨d, hd, q⟩ := r.getV hk
  exact ⟨d, List.mem_of_getElem? hd, q⟩
end

/-! ## the store in the heap -/
noncomputable def Cell.live : Cell → Bool
  | .lst _ | .dct _ => true
  | _ => false
noncomputable def Cell.isGone : Cell → Bool
  | .gone => true
  | _ => false
theorem Cell.live_not_gone {c : Cell} (h : c.live = true) : c.isGone = false := by cases c <;> simp_all [Cell.live, Cell.isGone]

noncomputable def TT (β : List Addr) (σ : Store) (a : Addr) : Prop := ∃ (k : Nat) (c : Cell), β[k]? = some a ∧ σ[k]? = some c ∧ c.isGone = false
noncomputable def WW (β : List Addr) (σ : Store) (a : Addr) : Prop := ∃ (k : Nat) (c : Cell), β[k]? = some a ∧ σ[k]? = some c ∧ c.live = true
theorem WW.tt {β : List Addr} {σ : Store} {a : Addr} : WW β σ a → TT β σ a := fun ⟨k, c, h1, h2, h3⟩ => ⟨k, c, h1, h2, Cell.live_not_gone h3⟩
theorem TT.mem {β : List Addr} {σ : Store} {a : Addr} : TT β σ a → a ∈ β := fun ⟨_, _, h1, _, _⟩ => List.mem_of_getElem? h1

structure Cx where
  prog : Program
  w : World
  h₀ : Heap
  mg : Str → Option Value
  mb : Str → Option Value

/-- the dict at a in h, its values as they stand in hd -/
noncomputable def DictRel (Z : Cx) (T : Addr → Prop) (h hd : Heap) (a : Addr) (l : List (Str × PyData)) : Prop :=
  ∃ kvs : List (Str × Value), h.DictOf (strKind Z.prog Z.w) a kvs ∧ kvs.map (·.1) = l.map (·.1) ∧ RelAll T hd (kvs.map (·.2)) (l.map (·.2)) ∧ (∀ k ∈ l.map (·.1), strGood k) ∧ l.length ≤ LIM

noncomputable def CellRel (Z : Cx) (T : Addr → Prop) (h hd : Heap) (a : Addr) : Cell → Prop
  | .lst l => ∃ vs n, h.get? a = some (listO vs n) ∧ RelAll T hd vs.toList l ∧ l.length ≤ LIM
  | .dct l => DictRel Z T h hd a l
  | _ => ∃ o, h.get? a = some o

structure Inv (Z : Cx) (β : List Addr) (σ : Store) (h : Heap) : Prop where
  len : β.length = σ.length
  nodup : β.Nodup
  base : ∀ a o, Z.h₀.get? a = some o → h.get? a = some o
  fresh : ∀ a ∈ β, Z.h₀.get? a = none
  cell : ∀ (k : Nat) (a : Addr) (c : Cell), β[k]? = some a → σ[k]? = some c → CellRel Z (TT β σ) h h a c

structure Step (O : Addr → Prop) (β : List Addr) (σ : Store) (s : Shared) (β' : List Addr) (σ' : Store) (s' : Shared) : Prop where
  ext : ∃ e, β' = β ++ e ∧ ∀ a ∈ e, s.heap.get? a = none
  mono : ∀ (k : Nat) (c' : Cell), k < β.length → σ'[k]? = some c' → ∃ c, σ[k]? = some c ∧ (c'.live = true → c.live = true) ∧ (c.isGone = true → c'.isGone = true) ∧ (c = .busy → c' = .busy)
  keep : ∀ a o, s.heap.get? a = some o → ¬ WW β σ a → ¬ O a → s'.heap.get? a = some o
  alive : ∀ a, s'.heap.get? a = none → s.heap.get? a = none
  gens : s'.gens = s.gens
  os : s'.os = s.os

abbrev noO : Addr → Prop := fun _ => False

section
variable {Z : Cx} {O : Addr → Prop} {β β₁ β₂ : List Addr} {σ σ₁ σ₂ : Store} {s s₁ s₂ : Shared} {h h' : Heap}

theorem CellRel.ex {T : Addr → Prop} {hd : Heap} {a : Addr} : ∀ {c : Cell}, CellRel Z T h hd a c → ∃ o, h.get? a = some o
  | .lst _, ⟨_, _, e, _⟩ => ⟨_, e⟩
  | .dct _, ⟨_, ⟨o, _, _, e, _⟩, _⟩ => ⟨o, e⟩
  | .gone, e => e
  | .busy, e => e
theorem Inv.at (I : Inv Z β σ h) {k : Nat} {a : Addr} (hk : β[k]? = some a) : ∃ c, σ[k]? = some c ∧ CellRel Z (TT β σ) h h a c := by
  have hlt : k < σ.length := by rw [← I.len]; exact (List.getElem?_eq_some_iff.mp hk).1
  exact ⟨σ[k], List.getElem?_eq_getElem hlt, I.cell k a _ hk (List.getElem?_eq_getElem hlt)⟩
theorem Inv.ex (I : Inv Z β σ h) {a : Addr} (ha : a ∈ β) : ∃ o, h.get? a = some o := by
  obtain ⟨k, hk⟩ := List.getElem?_of_mem ha
  obtain ⟨c, _, r⟩ := I.at hk
  exact r.ex

theorem Step.refl : Step O β σ s β σ s :=
  ⟨⟨[], by simp, by simp⟩, fun k c' _ e => ⟨c', e, id, id, id⟩, fun _ _ e _ _ => e, fun _ e => e, rfl, rfl⟩

theorem Step.trans (a : Step O β σ s β₁ σ₁ s₁) (b : Step O β₁ σ₁ s₁ β₂ σ₂ s₂) : Step O β σ s β₂ σ₂ s₂ := by
  obtain ⟨e1, rfl, f1⟩ := a.ext
  obtain ⟨e2, rfl, f2⟩ := b.ext
  refine ⟨⟨e1 ++ e2, by simp, fun x hx => ?_⟩, fun k c' hk hc => ?_, fun x o hx hw hO => ?_, fun x hx => a.alive x (b.alive x hx), b.gens.trans a.gens, b.os.trans a.os⟩
  · rcases List.mem_append.mp hx with h1 | h1
    · exact f1 x h1
    · exact a.alive x (f2 x h1)
  · obtain ⟨c1, g1, g2, g3, g4⟩ := b.mono k c' (by simp; omega) hc
    obtain ⟨c, k1, k2, k3, k4⟩ := a.mono k c1 hk g1
    exact ⟨c, k1, fun z => k2 (g2 z), fun z => g3 (k3 z), fun z => g4 (k4 z)⟩
  · refine b.keep x o (a.keep x o hx hw hO) ?_ hO
    rintro ⟨k, c, h1, h2, h3⟩
    by_cases hk : k < β.length
    · obtain ⟨c0, k1, k2, _⟩ := a.mono k c hk h2
      exact hw ⟨k, c0, by rwa [List.getElem?_append_left hk] at h1, k1, k2 h3⟩
    · rw [List.getElem?_append_right (by omega)] at h1
      have := f1 x (List.mem_of_getElem? h1)
      rw [hx] at this; cases this

theorem Step.weaken {O' : Addr → Prop} (a : Step O β σ s β₁ σ₁ s₁) (hO : ∀ x, O x → O' x) : Step O' β σ s β₁ σ₁ s₁ :=
  ⟨a.ext, a.mono, fun x o hx hw hn => a.keep x o hx hw fun z => hn (hO x z), a.alive, a.gens, a.os⟩
theorem Step.ofNo (a : Step noO β σ s β₁ σ₁ s₁) : Step O β σ s β₁ σ₁ s₁ := a.weaken fun _ z => z.elim
/-- an own set of addresses that did not stand before -/
theorem Step.drop (a : Step O β σ s β₁ σ₁ s₁) (hO : ∀ x, O x → s.heap.get? x = none) : Step noO β σ s β₁ σ₁ s₁ :=
  ⟨a.ext, a.mono, fun x o hx hw _ => a.keep x o hx hw (fun z => by rw [hO x z] at hx; cases hx), a.alive, a.gens, a.os⟩

theorem Step.notTT (a : Step O β σ s β₁ σ₁ s₁) {x : Addr} {o : Obj} (hx : s.heap.get? x = some o) (ht : ¬ TT β σ x) : ¬ TT β₁ σ₁ x := by
  rintro ⟨k, c, h1, h2, h3⟩
  obtain ⟨e, rfl, f⟩ := a.ext
  by_cases hk : k < β.length
  · obtain ⟨c0, k1, k2, k3, _⟩ := a.mono k c hk h2
    refine ht ⟨k, c0, by rwa [List.getElem?_append_left hk] at h1, k1, ?_⟩
    cases hg : c0.isGone with
    | false => rfl
    | true => rw [k3 hg] at h3; cases h3
  · rw [List.getElem?_append_right (by omega)] at h1
    have := f x (List.mem_of_getElem? h1)
    rw [hx] at this; cases this

theorem Step.relH (a : Step O β σ s β₁ σ₁ s₁) (hO : ∀ x, O x → ¬ seqAt s.heap x) :
    ∀ x o vs n, s.heap.get? x = some o → o.data = .seq vs n → ¬ TT β σ x → s₁.heap.get? x = some o ∧ ¬ TT β₁ σ₁ x :=
  fun x o vs n hx hd ht => ⟨a.keep x o hx (fun z => ht z.tt) fun z => hO x z ⟨o, vs, n, hx, hd⟩, a.notTT hx ht⟩
theorem Step.rel (a : Step O β σ s β₁ σ₁ s₁) (hO : ∀ x, O x → ¬ seqAt s.heap x) {v : Value} {d : PyData} (r : Rel (TT β σ) s.heap v d) : Rel (TT β₁ σ₁) s₁.heap v d := r.mono (a.relH hO)
theorem Step.relAll (a : Step O β σ s β₁ σ₁ s₁) (hO : ∀ x, O x → ¬ seqAt s.heap x) {vs : List Value} {ds : List PyData} (r : RelAll (TT β σ) s.heap vs ds) : RelAll (TT β₁ σ₁) s₁.heap vs ds := r.mono (a.relH hO)
theorem Step.get (a : Step O β σ s β₁ σ₁ s₁) {k : Nat} {x : Addr} (hk : β[k]? = some x) : β₁[k]? = some x := by
  obtain ⟨e, rfl, _⟩ := a.ext
  rw [List.getElem?_append_left (List.getElem?_eq_some_iff.mp hk).1]; exact hk
end

/-! ## values -/
noncomputable def VRel (β : List Addr) (σ : Store) (h : Heap) (v : Value) : V → Prop
  | .un => False
  | .d x => Rel (TT β σ) h v x
  | .loc n => ∃ a, β[n]? = some a ∧ v = .ref a
  | .locs ns => ∃ a vs n, v = .ref a ∧ h.get? a = some (listO vs n) ∧ ¬ TT β σ a ∧ (vs.toList.length = ns.length ∧ ns.length ≤ LIM) ∧ ∀ (k : Nat) (m : Nat), ns[k]? = some m → ∃ b, β[m]? = some b ∧ vs[k]? = some (.ref b)

inductive VRels (β : List Addr) (σ : Store) (h : Heap) : List Value → List V → Prop
  | nil : VRels β σ h [] []
  | cons {v : Value} {vs : List Value} {x : V} {xs : List V} : VRel β σ h v x → VRels β σ h vs xs → VRels β σ h (v :: vs) (x :: xs)

section
variable {Z : Cx} {O : Addr → Prop} {β β₁ β₂ : List Addr} {σ σ₁ σ₂ : Store} {s s₁ s₂ : Shared} {h h' : Heap}
theorem Step.vrel (a : Step O β σ s β₁ σ₁ s₁) (hO : ∀ x, O x → ¬ seqAt s.heap x) {v : Value} : ∀ {x : V}, VRel β σ s.heap v x → VRel β₁ σ₁ s₁.heap v x
  | .d _, r => a.rel hO r
  | .loc _, ⟨x, h1, h2⟩ => ⟨x, a.get h1, h2⟩
  | .locs ns, ⟨x, vs, n, h1, h2, h3, h4, h5⟩ =>
    ⟨x, vs, n, h1, (a.relH hO _ _ _ _ h2 rfl h3).1, (a.relH hO _ _ _ _ h2 rfl h3).2, h4, fun k m e => let ⟨b, g1, g2⟩ := h5 k m e; ⟨b, a.get g1, g2⟩⟩
theorem Step.vrel0 (a : Step noO β σ s β₁ σ₁ s₁) {v : Value} {x : V} (r : VRel β σ s.heap v x) : VRel β₁ σ₁ s₁.heap v x := a.vrel (fun _ z => z.elim) r
theorem Step.rel0 (a : Step noO β σ s β₁ σ₁ s₁) {v : Value} {d : PyData} (r : Rel (TT β σ) s.heap v d) : Rel (TT β₁ σ₁) s₁.heap v d := a.rel (fun _ z => z.elim) r
theorem Step.relAll0 (a : Step noO β σ s β₁ σ₁ s₁) {v : List Value} {d : List PyData} (r : RelAll (TT β σ) s.heap v d) : RelAll (TT β₁ σ₁) s₁.heap v d := a.relAll (fun _ z => z.elim) r
theorem Step.vrels (a : Step O β σ s β₁ σ₁ s₁) (hO : ∀ x, O x → ¬ seqAt s.heap x) : ∀ {vs : List Value} {xs : List V}, VRels β σ s.heap vs xs → VRels β₁ σ₁ s₁.heap vs xs
  | _, _, .nil => .nil
  | _, _, .cons r rs => .cons (a.vrel hO r) (a.vrels hO rs)

/-! ### primitive changes -/
/-- the heap grows, nothing else -/
theorem Step.grow (hk : ∀ a o, s.heap.get? a = some o → s₁.heap.get? a = some o) (hg : s₁.gens = s.gens) (ho : s₁.os = s.os) : Step O β σ s β σ s₁ :=
  ⟨⟨[], by simp, by simp⟩, fun k c' _ e => ⟨c', e, id, id, id⟩, fun a o e _ _ => hk a o e, fun a e => (by
    cases q : s.heap.get? a with
    | none => rfl
    | some o => rw [hk a o q] at e; cases e), hg, ho⟩
theorem DictRel.mono {T T' : Addr → Prop} {hd hd' : Heap} {a : Addr} {l : List (Str × PyData)} (r : DictRel Z T h hd a l) (ha : ∀ o, h.get? a = some o → h'.get? a = some o)
    (H : ∀ a o vs n, hd.get? a = some o → o.data = .seq vs n → ¬ T a → hd'.get? a = some o ∧ ¬ T' a) : DictRel Z T' h' hd' a l := by
  obtain ⟨kvs, ⟨o, es, ep, e1, e2⟩, q, r, st⟩ := r
  exact ⟨kvs, ⟨o, es, ep, ha _ e1, e2⟩, q, r.mono H, st⟩
theorem CellRel.mono {T T' : Addr → Prop} {hd hd' : Heap} {a : Addr} {c : Cell} (r : CellRel Z T h hd a c) (ha : ∀ o, h.get? a = some o → h'.get? a = some o)
    (H : ∀ a o vs n, hd.get? a = some o → o.data = .seq vs n → ¬ T a → hd'.get? a = some o ∧ ¬ T' a) : CellRel Z T' h' hd' a c := by
  cases c with
  | lst l => obtain ⟨vs, n, e, r, z⟩ := r; exact ⟨vs, n, ha _ e, r.mono H, z⟩
  | dct l => exact DictRel.mono r ha H
  | gone => obtain ⟨o, e⟩ := r; exact ⟨o, ha _ e⟩
  | busy => obtain ⟨o, e⟩ := r; exact ⟨o, ha _ e⟩
theorem Inv.grow (I : Inv Z β σ h) (hk : ∀ a o, h.get? a = some o → h'.get? a = some o) : Inv Z β σ h' :=
  ⟨I.len, I.nodup, fun a o e => hk a o (I.base a o e), I.fresh, fun k a c h1 h2 => (I.cell k a c h1 h2).mono (fun o e => hk a o e) fun a o _ _ e _ t => ⟨hk a o e, t⟩⟩

theorem TT_snoc {c : Cell} {a x : Addr} (hl : β.length = σ.length) : TT (β ++ [a]) (σ ++ [c]) x ↔ TT β σ x ∨ (x = a ∧ c.isGone = false) := by
  constructor
  · rintro ⟨k, c', h1, h2, h3⟩
    by_cases hk : k < β.length
    · rw [List.getElem?_append_left hk] at h1
      rw [List.getElem?_append_left (by omega)] at h2
      exact .inl ⟨k, c', h1, h2, h3⟩
    · rw [List.getElem?_append_right (by omega)] at h1
      rw [List.getElem?_append_right (by omega)] at h2
      have e : k - β.length = 0 := by
        have := (List.getElem?_eq_some_iff.mp h1).1
        simp at this; omega
      rw [e] at h1
      rw [← hl, e] at h2
      simp at h1 h2
      subst h1 h2
      exact .inr ⟨rfl, h3⟩
  · rintro (⟨k, c', h1, h2, h3⟩ | ⟨rfl, h3⟩)
    · exact ⟨k, c', by rw [List.getElem?_append_left (List.getElem?_eq_some_iff.mp h1).1]; exact h1, by rw [List.getElem?_append_left (List.getElem?_eq_some_iff.mp h2).1]; exact h2, h3⟩
    · exact ⟨β.length, c, by simp, by rw [hl]; simp, h3⟩

/-- a new box -/
theorem newBox {a : Addr} {c : Cell} (I : Inv Z β σ s.heap) (hk : ∀ a o, s.heap.get? a = some o → s₁.heap.get? a = some o) (hf : s.heap.get? a = none) (hg : s₁.gens = s.gens) (ho : s₁.os = s.os)
    (hc : CellRel Z (TT β σ) s₁.heap s.heap a c) : Step O β σ s (β ++ [a]) (σ ++ [c]) s₁ ∧ Inv Z (β ++ [a]) (σ ++ [c]) s₁.heap := by
  have hna : a ∉ β := fun m => by obtain ⟨o, e⟩ := I.ex m; rw [hf] at e; cases e
  have H0 : ∀ x o vs n, s.heap.get? x = some o → o.data = .seq vs n → ¬ TT β σ x → s₁.heap.get? x = some o ∧ ¬ TT (β ++ [a]) (σ ++ [c]) x := fun x o vs n e d t =>
    ⟨hk x o e, fun z => ((TT_snoc I.len).mp z).elim t fun q => by rw [q.1, hf] at e; cases e⟩
  refine ⟨⟨⟨[a], rfl, by simpa using hf⟩, fun k c' hk' e => ?_, fun x o e _ _ => hk x o e, fun x e => ?_, hg, ho⟩, ⟨by simp [I.len], ?_, fun x o e => hk x o (I.base x o e), ?_, ?_⟩⟩
  · rw [List.getElem?_append_left (by rw [← I.len]; exact hk')] at e
    exact ⟨c', e, id, id, id⟩
  · cases q : s.heap.get? x with
    | none => rfl
    | some o => rw [hk x o q] at e; cases e
  · rw [List.nodup_append]
    exact ⟨I.nodup, by simp, fun x hx y hy => by simp at hy; subst hy; rintro rfl; exact hna hx⟩
  · intro x hx
    rcases List.mem_append.mp hx with h1 | h1
    · exact I.fresh x h1
    · simp at h1; subst h1
      cases q : Z.h₀.get? x with
      | none => rfl
      | some o => rw [I.base x o q] at hf; cases hf
  · intro k x c' h1 h2
    by_cases hk' : k < β.length
    · rw [List.getElem?_append_left hk'] at h1
      rw [List.getElem?_append_left (by rw [← I.len]; exact hk')] at h2
      exact (I.cell k x c' h1 h2).mono (fun o e => hk x o e) H0
    · rw [List.getElem?_append_right (by omega)] at h1
      rw [List.getElem?_append_right (by rw [← I.len]; omega)] at h2
      have e : k - β.length = 0 := by
        have := (List.getElem?_eq_some_iff.mp h1).1
        simp at this; omega
      rw [e] at h1
      rw [← I.len, e] at h2
      simp at h1 h2
      subst h1 h2
      exact hc.mono (fun o e => e) H0

theorem get_set_ne {c : Cell} {n k : Nat} (hne : n ≠ k) : (σ.set n c)[k]? = σ[k]? := by simp [hne]
theorem get_set_eq {c c₀ : Cell} {n : Nat} (hn : σ[n]? = some c₀) : (σ.set n c)[n]? = some c := by
  have := (List.getElem?_eq_some_iff.mp hn).1
  simp [this]

theorem TT_set {c c₀ : Cell} {n : Nat} {a x : Addr} (I : Inv Z β σ h) (hb : β[n]? = some a) (hn : σ[n]? = some c₀) (hx : x ≠ a) : TT β (σ.set n c) x ↔ TT β σ x := by
  constructor
  · rintro ⟨k, c', h1, h2, h3⟩
    have hne : n ≠ k := by rintro rfl; rw [hb] at h1; cases h1; exact hx rfl
    rw [get_set_ne hne] at h2
    exact ⟨k, c', h1, h2, h3⟩
  · rintro ⟨k, c', h1, h2, h3⟩
    have hne : n ≠ k := by rintro rfl; rw [hb] at h1; cases h1; exact hx rfl
    exact ⟨k, c', h1, by rw [get_set_ne hne]; exact h2, h3⟩

/-- a live box is changed: the heap at its address alone, and what is new beside -/
theorem setBox {a : Addr} {n : Nat} {c c₀ : Cell} (I : Inv Z β σ s.heap) (hb : β[n]? = some a) (hn : σ[n]? = some c₀) (hl : c₀.live = true) (hlc : c.live = true) (hk : ∀ x o, x ≠ a → s.heap.get? x = some o → s₁.heap.get? x = some o)
    (hg : s₁.gens = s.gens) (ho : s₁.os = s.os) (hc : CellRel Z (TT β σ) s₁.heap s.heap a c) : Step O β σ s β (σ.set n c) s₁ ∧ Inv Z β (σ.set n c) s₁.heap := by
  have hTa : TT β σ a := ⟨n, c₀, hb, hn, Cell.live_not_gone hl⟩
  have tt : ∀ x, TT β (σ.set n c) x → TT β σ x := fun x z => by
    by_cases hx : x = a
    · rw [hx]; exact hTa
    · exact (TT_set I hb hn hx).mp z
  have H0 : ∀ x o vs n', s.heap.get? x = some o → o.data = .seq vs n' → ¬ TT β σ x → s₁.heap.get? x = some o ∧ ¬ TT β (σ.set n c) x := fun x o vs n' e d t =>
    ⟨hk x o (fun q => t (q ▸ hTa)) e, fun z => t (tt x z)⟩
  refine ⟨⟨⟨[], by simp, by simp⟩, fun k c' hk' e => ?_, fun x o e hw _ => hk x o (fun q => hw (q ▸ ⟨n, c₀, hb, hn, hl⟩)) e, fun x e => ?_, hg, ho⟩, ⟨by simp [I.len], I.nodup, fun x o e => hk x o (fun q => ?_) (I.base x o e), I.fresh, ?_⟩⟩
  · by_cases hne : n = k
    · subst hne; rw [get_set_eq hn] at e; cases e
      exact ⟨c₀, hn, fun _ => hl, (fun z => by rw [Cell.live_not_gone hl] at z; cases z), (fun z => by rw [z] at hl; cases hl)⟩
    · rw [get_set_ne hne] at e; exact ⟨c', e, id, id, id⟩
  · cases q : s.heap.get? x with
    | none => rfl
    | some o =>
      by_cases hx : x = a
      · obtain ⟨o', e'⟩ := hc.ex; rw [hx, e'] at e; cases e
      · rw [hk x o hx q] at e; cases e
  · have := I.fresh a (List.mem_of_getElem? hb); rw [← q, e] at this; cases this
  · intro k x c' h1 h2
    by_cases hne : n = k
    · subst hne; rw [get_set_eq hn] at h2; cases h2
      rw [hb] at h1; cases h1
      exact hc.mono (fun o e => e) H0
    · rw [get_set_ne hne] at h2
      have hxa : x ≠ a := by
        rintro rfl
        have := (List.getElem?_inj (List.getElem?_eq_some_iff.mp hb).1 I.nodup).mp (hb.trans h1.symm)
        exact hne this
      exact (I.cell k x c' h1 h2).mono (fun o e => hk x o hxa e) H0

theorem Inv.addr_ne (I : Inv Z β σ h) {k n : Nat} {x a : Addr} (hb : β[n]? = some a) (h1 : β[k]? = some x) (hne : n ≠ k) : x ≠ a := by
  rintro rfl
  exact hne ((List.getElem?_inj (List.getElem?_eq_some_iff.mp hb).1 I.nodup).mp (hb.trans h1.symm))

/-- a box is frozen or locked: the heap stays -/
theorem shutBox {a : Addr} {n : Nat} {c c₀ : Cell} (I : Inv Z β σ s.heap) (hb : β[n]? = some a) (hn : σ[n]? = some c₀) (hl : c₀.live = true) (hc : c.live = false) : Step O β σ s β (σ.set n c) s ∧ Inv Z β (σ.set n c) s.heap := by
  have hg := Cell.live_not_gone hl
  have hTa : TT β σ a := ⟨n, c₀, hb, hn, hg⟩
  have tt : ∀ x, TT β (σ.set n c) x → TT β σ x := fun x z => by
    by_cases hx : x = a
    · rw [hx]; exact hTa
    · exact (TT_set I hb hn hx).mp z
  have H0 : ∀ x o vs n', s.heap.get? x = some o → o.data = .seq vs n' → ¬ TT β σ x → s.heap.get? x = some o ∧ ¬ TT β (σ.set n c) x := fun x o vs n' e d t => ⟨e, fun z => t (tt x z)⟩
  refine ⟨⟨⟨[], by simp, by simp⟩, fun k c' hk' e => ?_, fun x o e hw _ => e, fun x e => e, rfl, rfl⟩, ⟨by simp [I.len], I.nodup, I.base, I.fresh, ?_⟩⟩
  · by_cases hne : n = k
    · subst hne; rw [get_set_eq hn] at e; cases e
      exact ⟨c₀, hn, (fun z => by rw [hc] at z; cases z), (fun z => by rw [hg] at z; cases z), (fun z => by rw [z] at hl; cases hl)⟩
    · rw [get_set_ne hne] at e; exact ⟨c', e, id, id, id⟩
  · intro k x c' h1 h2
    by_cases hne : n = k
    · subst hne; rw [get_set_eq hn] at h2; cases h2
      rw [hb] at h1; cases h1
      have := (I.cell n a c₀ hb hn).ex
      cases c with
      | lst l => simp [Cell.live] at hc
      | dct l => simp [Cell.live] at hc
      | gone => exact this
      | busy => exact this
    · rw [get_set_ne hne] at h2
      exact (I.cell k x c' h1 h2).mono (fun o e => e) H0

/-- a frozen box is a list among the data -/
theorem frozen_rel {a : Addr} {n : Nat} {l : List PyData} (I : Inv Z β σ s.heap) (hb : β[n]? = some a) (hn : σ[n]? = some (.lst l)) : Rel (TT β (σ.set n .gone)) s.heap (.ref a) (.list l) := by
  obtain ⟨vs, m, e, r, hz⟩ := I.cell n a _ hb hn
  have hTa : TT β σ a := ⟨n, _, hb, hn, rfl⟩
  refine .list e ?_ hz (r.mono fun x o vs n' e d t => ⟨e, fun z => t ?_⟩)
  · rintro ⟨k, c', h1, h2, h3⟩
    have : n = k := (List.getElem?_inj (List.getElem?_eq_some_iff.mp hb).1 I.nodup).mp (hb.trans h1.symm)
    subst this
    rw [get_set_eq hn] at h2; cases h2; cases h3
  · by_cases hx : x = a
    · rw [hx]; exact hTa
    · exact (TT_set I hb hn hx).mp z

/-- what was locked is opened again: between the two the box's own object stayed -/
theorem unlockBox {a : Addr} {n : Nat} {l : List PyData} (I : Inv Z β σ s.heap) (hb : β[n]? = some a) (hn : σ[n]? = some (.lst l)) (S : Step O β (σ.set n .busy) s β₁ σ₁ s₁) (hO : ∀ x, O x → ¬ seqAt s.heap x) (I₁ : Inv Z β₁ σ₁ s₁.heap) :
    Step O β σ s β₁ (σ₁.set n (.lst l)) s₁ ∧ Inv Z β₁ (σ₁.set n (.lst l)) s₁.heap := by
  obtain ⟨vs, m, e, r, hz⟩ := I.cell n a _ hb hn
  have hTa : TT β σ a := ⟨n, _, hb, hn, rfl⟩
  have J := shutBox (O := O) (c := .busy) I hb hn rfl rfl
  have hlt : n < β.length := (List.getElem?_eq_some_iff.mp hb).1
  have hb₁ := S.get hb
  have nW : ¬ WW β (σ.set n .busy) a := by
    rintro ⟨k, c', h1, h2, h3⟩
    have : n = k := (List.getElem?_inj (List.getElem?_eq_some_iff.mp hb).1 I.nodup).mp (hb.trans h1.symm)
    subst this
    rw [get_set_eq hn] at h2; cases h2; cases h3
  have nO : ¬ O a := fun z => hO a z ⟨_, vs, m, e, rfl⟩
  have e₁ := S.keep a _ e nW nO
  obtain ⟨c₁, hn₁, _⟩ := I₁.at hb₁
  obtain ⟨c', k1, k2, k3, k4⟩ := S.mono n c₁ hlt hn₁
  rw [get_set_eq hn] at k1; cases k1
  have : c₁ = .busy := k4 rfl
  subst this
  -- the same addresses are barred, with the box locked or open
  have TTof : ∀ x, TT β (σ.set n .busy) x ↔ TT β σ x := fun x => by
    by_cases hx : x = a
    · subst hx; exact ⟨fun _ => hTa, fun _ => ⟨n, _, hb, get_set_eq hn, rfl⟩⟩
    · exact TT_set I hb hn hx
  have TTof₁ : ∀ x, TT β₁ (σ₁.set n (.lst l)) x ↔ TT β₁ σ₁ x := fun x => by
    by_cases hx : x = a
    · subst hx; exact ⟨fun _ => ⟨n, _, hb₁, hn₁, rfl⟩, fun _ => ⟨n, _, hb₁, get_set_eq hn₁, rfl⟩⟩
    · exact TT_set I₁ hb₁ hn₁ hx
  have r₁ : RelAll (TT β₁ (σ₁.set n (.lst l))) s₁.heap vs.toList l := by
    refine r.mono fun x o vs' n' ex d t => ?_
    have q := S.relH hO x o vs' n' ex d fun z => t ((TTof x).mp z)
    exact ⟨q.1, fun z => q.2 ((TTof₁ x).mp z)⟩
  have H0 : ∀ x o vs' n', s₁.heap.get? x = some o → o.data = .seq vs' n' → ¬ TT β₁ σ₁ x → s₁.heap.get? x = some o ∧ ¬ TT β₁ (σ₁.set n (.lst l)) x := fun x o _ _ ex _ t => ⟨ex, fun z => t ((TTof₁ x).mp z)⟩
  refine ⟨⟨S.ext, fun k c' hk e => ?_, fun x o ex hw hO' => S.keep x o ex (fun z => hw ?_) hO', S.alive, S.gens, S.os⟩, ⟨by simp [I₁.len], I₁.nodup, I₁.base, I₁.fresh, ?_⟩⟩
  · by_cases hne : n = k
    · subst hne; rw [get_set_eq hn₁] at e; cases e
      exact ⟨_, hn, id, id, fun z => by cases z⟩
    · rw [get_set_ne hne] at e
      obtain ⟨c, g1, g2, g3, g4⟩ := S.mono k c' hk e
      rw [get_set_ne hne] at g1
      exact ⟨c, g1, g2, g3, g4⟩
  · obtain ⟨k, c', h1, h2, h3⟩ := z
    by_cases hne : n = k
    · subst hne; rw [get_set_eq hn] at h2; cases h2; cases h3
    · rw [get_set_ne hne] at h2; exact ⟨k, c', h1, h2, h3⟩
  · intro k x c' h1 h2
    by_cases hne : n = k
    · subst hne; rw [get_set_eq hn₁] at h2; cases h2
      rw [hb₁] at h1; cases h1
      exact ⟨vs, m, e₁, r₁, hz⟩
    · rw [get_set_ne hne] at h2
      exact (I₁.cell k x c' h1 h2).mono (fun o e => e) H0

/-! ### leaving a call -/
theorem TT_take {n : Nat} {x : Addr} : TT (β.take n) (σ.take n) x → TT β σ x := by
  rintro ⟨k, c, h1, h2, h3⟩
  rw [List.getElem?_take] at h1 h2
  split at h1
  · rename_i hk; rw [if_pos hk] at h2; exact ⟨k, c, h1, h2, h3⟩
  · cases h1
theorem Inv.take (I : Inv Z β σ h) (n : Nat) : Inv Z (β.take n) (σ.take n) h := by
  refine ⟨by simp [I.len], I.nodup.sublist (List.take_sublist ..), I.base, fun a ha => I.fresh a (List.mem_of_mem_take ha), fun k a c h1 h2 => ?_⟩
  rw [List.getElem?_take] at h1 h2
  split at h1
  · rename_i hk; rw [if_pos hk] at h2
    exact (I.cell k a c h1 h2).mono (fun o e => e) fun x o _ _ e _ t => ⟨e, fun z => t (TT_take z)⟩
  · cases h1
theorem Step.take (a : Step O β σ s β₁ σ₁ s₁) (hl : β.length = σ.length) (hl₁ : β₁.length = σ₁.length) : Step O β σ s (β₁.take σ.length) (σ₁.take σ.length) s₁ := by
  obtain ⟨e, rfl, f⟩ := a.ext
  refine ⟨⟨[], by simp [← hl], by simp⟩, fun k c' hk hc => a.mono k c' hk ?_, a.keep, a.alive, a.gens, a.os⟩
  rw [List.getElem?_take, if_pos (by omega)] at hc
  exact hc
theorem takeRel {v : Value} {d : PyData} {n : Nat} (r : Rel (TT β σ) h v d) : Rel (TT (β.take n) (σ.take n)) h v d := r.mono fun x o _ _ e _ t => ⟨e, fun z => t (TT_take z)⟩
theorem TT_moved {n k : Nat} {a x : Addr} {c : Cell} (hb : β[k]? = some a) (hc : σ[k]? = some c) (hl : β.length = σ.length) : TT (β.take n ++ [a]) (σ.take n ++ [c]) x → TT β σ x := fun z => by
  rcases (TT_snoc (by simp [hl])).mp z with z | ⟨rfl, z'⟩
  · exact TT_take z
  · exact ⟨k, c, hb, hc, z'⟩
/-- the one box that is handed back -/
theorem exitBox {k : Nat} {a : Addr} {c : Cell} (S : Step O β σ s β₁ σ₁ s₁) (hl : β.length = σ.length) (I₁ : Inv Z β₁ σ₁ s₁.heap) (hk : σ.length ≤ k) (hb : β₁[k]? = some a) (hc : σ₁[k]? = some c) :
    Step O β σ s (β₁.take σ.length ++ [a]) (σ₁.take σ.length ++ [c]) s₁ ∧ Inv Z (β₁.take σ.length ++ [a]) (σ₁.take σ.length ++ [c]) s₁.heap := by
  have T := S.take hl I₁.len
  have J := I₁.take σ.length
  obtain ⟨e, rfl, f⟩ := S.ext
  have ha : a ∈ e := by
    rw [List.getElem?_append_right (by omega)] at hb
    exact List.mem_of_getElem? hb
  have hlen : (List.take σ.length σ₁).length = σ.length := by
    have := I₁.len
    simp at this ⊢; omega
  have hβ : List.take σ.length (β ++ e) = β := by simp [← hl]
  have H0 : ∀ x o vs n, s₁.heap.get? x = some o → o.data = .seq vs n → ¬ TT (β ++ e) σ₁ x → s₁.heap.get? x = some o ∧ ¬ TT ((β ++ e).take σ.length ++ [a]) (σ₁.take σ.length ++ [c]) x :=
    fun x o _ _ ex _ t => ⟨ex, fun z => t (TT_moved hb hc I₁.len z)⟩
  refine ⟨⟨⟨[a], by rw [hβ], by simpa using f a ha⟩, fun j c' hj hc' => ?_, S.keep, S.alive, S.gens, S.os⟩, ⟨by simp [hβ, hlen, hl], ?_, I₁.base, fun x hx => ?_, fun j x c' h1 h2 => ?_⟩⟩
  · rw [List.getElem?_append_left (by omega)] at hc'
    exact T.mono j c' hj hc'
  · rw [hβ, List.nodup_append]
    have nd := List.nodup_append.mp I₁.nodup
    exact ⟨nd.1, by simp, fun x hx y hy => by simp at hy; subst hy; exact nd.2.2 x hx y ha⟩
  · rcases List.mem_append.mp hx with h1 | h1
    · exact J.fresh x h1
    · simp at h1; subst h1; exact I₁.fresh x (List.mem_append_right _ ha)
  · by_cases hj : j < β.length
    · rw [hβ, List.getElem?_append_left hj] at h1
      rw [List.getElem?_append_left (by omega), List.getElem?_take, if_pos (by omega)] at h2
      exact (I₁.cell j x c' (by rw [List.getElem?_append_left hj]; exact h1) h2).mono (fun o e => e) H0
    · rw [hβ, List.getElem?_append_right (by omega)] at h1
      rw [List.getElem?_append_right (by omega)] at h2
      have ej : j - β.length = 0 := by
        have := (List.getElem?_eq_some_iff.mp h1).1
        simp at this; omega
      rw [ej] at h1
      rw [hlen, ← hl, ej] at h2
      simp at h1 h2
      subst h1 h2
      exact (I₁.cell k a c hb hc).mono (fun o e => e) H0
end
end Mine

set_option autoImplicit false
set_option linter.unusedVariables false
namespace Mine
open PySem PySem.Calls

/-! ## running: the model's tree against the interpreter's answer -/
noncomputable def AOk (d : Nat) (A : Around) : Prop := A.handled = none ∧ A.depth + d < recursionLimit ∧ A.units + 8 * d + 200 < cLine
theorem AOk.in1 {d : Nat} {A : Around} (h : AOk (d + 1) A) : AOk d A.in1 := ⟨h.1, by have := h.2.1; show A.depth + d < _; omega, by have := h.2.2; show A.units + 1 + _ + _ < _; omega⟩
theorem AOk.deeper {d : Nat} {A : Around} (env : Env) (h : AOk (d + 1) A) : AOk d (A.deeper env) := ⟨h.1, by have := h.2.1; show A.depth + 1 + d < _; omega, by have := h.2.2; show A.units + 3 + _ + _ < _; omega⟩

noncomputable def Ev {α γ : Type} (Z : Cx) (O : Addr → Prop) (A : Around) (t : Sem α) (r : Res γ) (R : α → γ → List Addr → Store → Heap → Prop) (β : List Addr) (σ : Store) (s : Shared) : Prop :=
  ∀ c σ', r = .ok c σ' → wpAny (model Z.prog Z.w) A t (fun a s' => ∃ β', Step O β σ s β' σ' s' ∧ Inv Z β' σ' s'.heap ∧ R a c β' σ' s'.heap) (fun _ _ => False) s

section
variable {α α' γ γ' : Type} {Z : Cx} {O : Addr → Prop} {A : Around} {β : List Addr} {σ : Store} {s : Shared} {R : α → γ → List Addr → Store → Heap → Prop} {R' : α' → γ' → List Addr → Store → Heap → Prop}

theorem Ev.bind {m : Sem α} {f : α → Sem α'} {r : Res γ} {k : γ → Store → Res γ'} (h : Ev Z O A m r R β σ s)
    (hf : ∀ a c β' σ' s', Step O β σ s β' σ' s' → Inv Z β' σ' s'.heap → R a c β' σ' s'.heap → r = .ok c σ' → Ev Z O A (f a) (k c σ') R' β' σ' s') : Ev Z O A (m >>= f) (r.bind k) R' β σ s := by
  intro c' σ' e
  cases r with
  | bad => cases e
  | ok c σ₁ =>
    refine wpAny_bind (wpAny_mono (h c σ₁ rfl) (fun a s₁ h₁ => ?_) fun _ _ x => x)
    obtain ⟨β₁, S₁, I₁, r₁⟩ := h₁
    refine wpAny_mono (hf a c β₁ σ₁ s₁ S₁ I₁ r₁ rfl c' σ' e) (fun a' s₂ h₂ => ?_) fun _ _ x => x
    obtain ⟨β₂, S₂, I₂, r₂⟩ := h₂
    exact ⟨β₂, S₁.trans S₂, I₂, r₂⟩
theorem Ev.bindO {m : Sem α} {f : α → Sem α'} {r : Res γ} {k : γ → Store → Res γ'} (h : Ev Z noO A m r R β σ s)
    (hf : ∀ a c β' σ' s', Step noO β σ s β' σ' s' → Inv Z β' σ' s'.heap → R a c β' σ' s'.heap → r = .ok c σ' → Ev Z O A (f a) (k c σ') R' β' σ' s') : Ev Z O A (m >>= f) (r.bind k) R' β σ s := by
  intro c' σ' e
  cases r with
  | bad => cases e
  | ok c σ₁ =>
    refine wpAny_bind (wpAny_mono (h c σ₁ rfl) (fun a s₁ h₁ => ?_) fun _ _ x => x)
    obtain ⟨β₁, S₁, I₁, r₁⟩ := h₁
    refine wpAny_mono (hf a c β₁ σ₁ s₁ S₁ I₁ r₁ rfl c' σ' e) (fun a' s₂ h₂ => ?_) fun _ _ x => x
    obtain ⟨β₂, S₂, I₂, r₂⟩ := h₂
    exact ⟨β₂, S₁.ofNo.trans S₂, I₂, r₂⟩
theorem Ev.bad {t : Sem α} : Ev Z O A t (.bad : Res γ) R β σ s := fun _ _ e => by cases e
theorem Ev.pure {a : α} {c : γ} (I : Inv Z β σ s.heap) (h : R a c β σ s.heap) : Ev Z O A (pure a) (.ok c σ) R β σ s := fun _ _ e => by
  cases e; exact wpAny_pure ⟨β, Step.refl, I, h⟩
theorem Ev.mono {t : Sem α} {r : Res γ} {R₂ : α → γ → List Addr → Store → Heap → Prop} (h : Ev Z O A t r R β σ s) (hR : ∀ a c β' σ' h', R a c β' σ' h' → R₂ a c β' σ' h') : Ev Z O A t r R₂ β σ s := fun c σ' e =>
  wpAny_mono (h c σ' e) (fun a s' ⟨β', S, I, q⟩ => ⟨β', S, I, hR _ _ _ _ _ q⟩) fun _ _ x => x
theorem Ev.holding {t : Sem α} {r : Res γ} {vs : List Value} (h : Ev Z O A t r R β σ s) : Ev Z O A (holding vs t) r R β σ s := fun c σ' e => wpAny_holding (h c σ' e)
theorem Ev.standAt {t : Sem α} {r : Res γ} {pos : Pos} (h : Ev Z O A t r R β σ s) : Ev Z O A (standAt pos >>= fun _ => t) r R β σ s := fun c σ' e => wpAny_bind (wpAny_standAt (h c σ' e))
theorem Ev.ofNo {t : Sem α} {r : Res γ} (h : Ev Z noO A t r R β σ s) : Ev Z O A t r R β σ s := fun c σ' e => wpAny_mono (h c σ' e) (fun a s' ⟨β', S, I, q⟩ => ⟨β', S.ofNo, I, q⟩) fun _ _ x => x
/-- a quiet step of the model's own: it leaves the boxes, the heap only grows -/
theorem Ev.quiet {m : Sem α} {f : α → Sem α'} {r : Res γ'} {P : α → Shared → Prop} (I : Inv Z β σ s.heap)
    (h : wpAny (model Z.prog Z.w) A m (fun a s' => P a s' ∧ (∀ b o, s.heap.get? b = some o → s'.heap.get? b = some o) ∧ s'.gens = s.gens ∧ s'.os = s.os) (fun _ _ => False) s)
    (hf : ∀ a s', P a s' → Step O β σ s β σ s' → Inv Z β σ s'.heap → Ev Z O A (f a) r R' β σ s') : Ev Z O A (m >>= f) r R' β σ s := fun c σ' e => by
  refine wpAny_bind (wpAny_mono h (fun a s₁ h₁ => ?_) fun _ _ x => x)
  obtain ⟨p, hk, hg, ho⟩ := h₁
  have S : Step O β σ s β σ s₁ := Step.grow hk hg ho
  refine wpAny_mono (hf a s₁ p S (I.grow hk) c σ' e) (fun a' s₂ h₂ => ?_) fun _ _ x => x
  obtain ⟨β₂, S₂, I₂, r₂⟩ := h₂
  exact ⟨β₂, S.trans S₂, I₂, r₂⟩
/-- an end whose state is told by the rule itself -/
theorem Ev.done {t : Sem α} {c : γ} {σ₁ : Store} (h : wpAny (model Z.prog Z.w) A t (fun a s' => ∃ β', Step O β σ s β' σ₁ s' ∧ Inv Z β' σ₁ s'.heap ∧ R a c β' σ₁ s'.heap) (fun _ _ => False) s) : Ev Z O A t (.ok c σ₁) R β σ s := fun _ _ e => by
  cases e; exact h
/-- a value of the heap as it grew -/
theorem Ev.grown {t : Sem α} {c : γ} (I : Inv Z β σ s.heap) (h : wpAny (model Z.prog Z.w) A t (fun a s' => (∀ b o, s.heap.get? b = some o → s'.heap.get? b = some o) ∧ s'.gens = s.gens ∧ s'.os = s.os ∧ R a c β σ s'.heap) (fun _ _ => False) s) :
    Ev Z O A t (.ok c σ) R β σ s := Ev.done (wpAny_mono h (fun a s' ⟨hk, hg, ho, r⟩ => ⟨β, Step.grow hk hg ho, I.grow hk, r⟩) fun _ _ x => x)
end

abbrev VR : Value → V → List Addr → Store → Heap → Prop := fun v x β σ h => VRel β σ h v x
abbrev VRs : List Value → List V → List Addr → Store → Heap → Prop := fun v x β σ h => VRels β σ h v x

/-! ## the world of a text -/
structure World0 (Z : Cx) : Prop where
  g : Z.h₀.Ns mainGlobals Z.mg
  b : Z.h₀.Ns builtinsNs Z.mb
  nolimit : Z.h₀.NoLimit

theorem World0.keeps {Z : Cx} (W : World0 Z) {β : List Addr} {σ : Store} {h : Heap} (I : Inv Z β σ h) : h.Ns mainGlobals Z.mg ∧ h.Ns builtinsNs Z.mb ∧ h.NoLimit :=
  ⟨W.g.keeps I.base, W.b.keeps I.base, W.nolimit.keeps I.base⟩

/-! ## frames -/
noncomputable def own (env : Env) (a : Addr) : Prop := a = env.locals ∨ ∃ x, env.cells.lookup x = some a

structure FrameOk (Z : Cx) (env : Env) (ks : List (Str × NameKind)) (sc : List (Str × Nat)) (ρ : Fm) (β : List Addr) (σ : Store) (h : Heap) : Prop where
  kind : env.scope.kind = .function
  globals : env.globals = mainGlobals
  builtins : env.builtins = builtinsNs
  kinds : ∀ x k, ks.lookup x = some k → env.kindOf x = some k ∨ (k = .free ∧ env.kindOf x = some .cell)
  bound : ∀ x i, sc.lookup x = some i → (env.kindOf x = some .local ∨ ((env.kindOf x = some .cell ∨ env.kindOf x = some .free) ∧ ∃ c, env.cells.lookup x = some c)) ∧ (x == ("__classdict__" : Str)) = false
  inj : ∀ x y i, sc.lookup x = some i → sc.lookup y = some i → x = y
  ns : ∃ m, h.Ns env.locals m ∧ ∀ x i, sc.lookup x = some i → env.kindOf x = some .local → ∀ v : V, ρ[i]? = some v → v ≠ .un → ∃ w, m x = some w ∧ VRel β σ h w v
  cell : ∀ x c, env.cells.lookup x = some c → ∃ ov, h.IsCell c ov ∧ ∀ i, sc.lookup x = some i → (env.kindOf x = some .cell ∨ env.kindOf x = some .free) → ∀ v : V, ρ[i]? = some v → v ≠ .un → ∃ w, ov = some w ∧ VRel β σ h w v
  apart : ∀ a, own env a → a ∉ β ∧ Z.h₀.get? a = none
  cinj : ∀ x y c, env.cells.lookup x = some c → env.cells.lookup y = some c → x = y
  cloc : ∀ x, env.cells.lookup x ≠ some env.locals

section
variable {Z : Cx} {env : Env} {ks : List (Str × NameKind)} {sc : List (Str × Nat)} {ρ : Fm} {β β₁ : List Addr} {σ σ₁ : Store} {s s₁ : Shared} {h : Heap}

theorem FrameOk.ownSome (F : FrameOk Z env ks sc ρ β σ h) {a : Addr} (ha : own env a) : ∃ o, h.get? a = some o ∧ ¬ ∃ vs n, o.data = .seq vs n := by
  rcases ha with rfl | ⟨x, e⟩
  · obtain ⟨m, ⟨o, es, ep, ho, hd, _⟩, _⟩ := F.ns
    exact ⟨o, ho, fun ⟨vs, n, q⟩ => by rw [hd] at q; cases q⟩
  · obtain ⟨ov, ⟨o, ho, hd⟩, _⟩ := F.cell x a e
    exact ⟨o, ho, fun ⟨vs, n, q⟩ => by rw [hd] at q; cases q⟩
theorem FrameOk.notSeq (F : FrameOk Z env ks sc ρ β σ h) : ∀ a, own env a → ¬ seqAt h a := fun a ha ⟨o, vs, n, e, d⟩ => by
  obtain ⟨o', e', q⟩ := F.ownSome ha
  rw [e] at e'; cases e'; exact q ⟨vs, n, d⟩

/-- the frame outlives what an expression does -/
theorem FrameOk.step (F : FrameOk Z env ks sc ρ β σ s.heap) (S : Step noO β σ s β₁ σ₁ s₁) : FrameOk Z env ks sc ρ β₁ σ₁ s₁.heap := by
  have keep : ∀ a, own env a → ∀ o, s.heap.get? a = some o → s₁.heap.get? a = some o := fun a ha o e =>
    S.keep a o e (fun z => (F.apart a ha).1 z.tt.mem) id
  refine ⟨F.kind, F.globals, F.builtins, F.kinds, F.bound, F.inj, ?_, ?_, ?_, F.cinj, F.cloc⟩
  · obtain ⟨m, ⟨o, es, ep, ho, r⟩, q⟩ := F.ns
    exact ⟨m, ⟨o, es, ep, keep _ (.inl rfl) o ho, r⟩, fun x i h1 h2 v h3 h4 => let ⟨w, g1, g2⟩ := q x i h1 h2 v h3 h4; ⟨w, g1, S.vrel0 g2⟩⟩
  · intro x c e
    obtain ⟨ov, ⟨o, ho, hd⟩, q⟩ := F.cell x c e
    exact ⟨ov, ⟨o, keep c (.inr ⟨x, e⟩) o ho, hd⟩, fun i h1 h2 v h3 h4 => let ⟨w, g1, g2⟩ := q i h1 h2 v h3 h4; ⟨w, g1, S.vrel0 g2⟩⟩
  · intro a ha
    refine ⟨fun m => ?_, (F.apart a ha).2⟩
    obtain ⟨e, rfl, f⟩ := S.ext
    rcases List.mem_append.mp m with m | m
    · exact (F.apart a ha).1 m
    · obtain ⟨o, e', _⟩ := F.ownSome ha
      rw [f a m] at e'; cases e'

theorem FrameOk.load (F : FrameOk Z env ks sc ρ β σ s.heap) {A : Around} {E : Value → Shared → Prop} {x : Str} {i : Nat} {v : V} {Q : Value → Shared → Prop} (hx : sc.lookup x = some i) (hv : ρ[i]? = some v) (hu : v ≠ .un)
    (h : ∀ w, VRel β σ s.heap w v → Q w s) : wpAny (model Z.prog Z.w) A (loadName env x) Q E s := by
  rcases F.bound x i hx with ⟨hk | ⟨hk, c, hc⟩, hn⟩
  · obtain ⟨m, N, q⟩ := F.ns
    obtain ⟨w, e, r⟩ := q x i hx hk v hv hu
    exact wpAny_loadName_local F.kind hk N e (h w r)
  · obtain ⟨ov, C, q⟩ := F.cell x c hc
    obtain ⟨w, rfl, r⟩ := q i hx hk v hv hu
    rcases hk with hk | hk
    · exact wpAny_loadName_cell F.kind hk hc C (h w r)
    · exact wpAny_loadName_free F.kind hk hc C (h w r) hn

theorem vrel_same {a : Addr} {h h' : Heap} (hs : ∀ b o, b ≠ a → h.get? b = some o → h'.get? b = some o) (hn : ¬ seqAt h a) {w : Value} : ∀ {v : V}, VRel β σ h w v → VRel β σ h' w v := by
  have H : ∀ x o vs n, h.get? x = some o → o.data = .seq vs n → ¬ TT β σ x → h'.get? x = some o ∧ ¬ TT β σ x := fun x o vs n e d t => ⟨hs x o (fun q => hn (q ▸ ⟨o, vs, n, e, d⟩)) e, t⟩
  intro v r
  cases v with
  | un => exact r
  | d x => exact Rel.mono H r
  | loc n => exact r
  | locs ns => obtain ⟨x, vs, n, h1, h2, h3, h4, h5⟩ := r; exact ⟨x, vs, n, h1, (H _ _ _ _ h2 rfl h3).1, h3, h4, h5⟩

theorem get_setV {i j : Nat} {v : V} {ρ : Fm} (hne : i ≠ j) : (ρ.set i v)[j]? = ρ[j]? := by simp [hne]

/-- a name is bound anew -/
theorem FrameOk.store (F : FrameOk Z env ks sc ρ β σ s.heap) (I : Inv Z β σ s.heap) {A : Around} {E : Value → Shared → Prop} {x : Str} {i : Nat} {v : V} {w : Value} {Q : Unit → Shared → Prop} (hx : sc.lookup x = some i) (r : VRel β σ s.heap w v)
    (h : ∀ s', FrameOk Z env ks sc (ρ.set i v) β σ s'.heap → Step (own env) β σ s β σ s' → Inv Z β σ s'.heap → (∀ u y, VRel β σ s.heap u y → VRel β σ s'.heap u y) → (env.kindOf x = some .local → ∀ b o, b ≠ env.locals → s.heap.get? b = some o → s'.heap.get? b = some o) → Q () s') : wpAny (model Z.prog Z.w) A (storeName env x w) Q E s := by
  have main : ∀ (a : Addr) (h' : Heap) (tk : Nat), own env a → (env.kindOf x = some .local → a = env.locals) → Heap.SameBut a s.heap h' → (h'.get? a ≠ none) →
      (∃ m, h'.Ns env.locals m ∧ ∀ y j, sc.lookup y = some j → env.kindOf y = some .local → ∀ u : V, (ρ.set i v)[j]? = some u → u ≠ .un → ∃ w', m y = some w' ∧ VRel β σ h' w' u) →
      (∀ y c, env.cells.lookup y = some c → ∃ ov, h'.IsCell c ov ∧ ∀ j, sc.lookup y = some j → (env.kindOf y = some .cell ∨ env.kindOf y = some .free) → ∀ u : V, (ρ.set i v)[j]? = some u → u ≠ .un → ∃ w', ov = some w' ∧ VRel β σ h' w' u) →
      Q () { s with heap := h', toks := tk } := by
    intro a h' tk ha hloc hs hal f1 f2
    have nW : a ∉ β := (F.apart a ha).1
    have hk : ∀ b o, b ≠ a → s.heap.get? b = some o → h'.get? b = some o := fun b o hb e => (hs.2 b hb).trans e
    refine h _ ⟨F.kind, F.globals, F.builtins, F.kinds, F.bound, F.inj, f1, f2, F.apart, F.cinj, F.cloc⟩ ⟨⟨[], by simp, by simp⟩, fun k c' _ e => ⟨c', e, id, id, id⟩, fun b o e _ hb => hk b o (fun q => hb (q ▸ ha)) e, fun b e => ?_, rfl, rfl⟩ ?_ ?_ ?_
    · by_cases hb : b = a
      · subst hb; exact absurd e hal
      · exact (hs.2 b hb).symm.trans e
    · refine ⟨I.len, I.nodup, fun b o e => hk b o (fun q => ?_) (I.base b o e), I.fresh, fun k b c h1 h2 => (I.cell k b c h1 h2).mono (fun o e => hk b o (fun q => nW (q ▸ List.mem_of_getElem? h1)) e) fun b o vs n e d t => ⟨hk b o (fun q => ?_) e, t⟩⟩
      · have := (F.apart a ha).2; rw [← q, e] at this; cases this
      · exact F.notSeq a ha (q ▸ ⟨o, vs, n, e, d⟩)
    · intro u y r; exact vrel_same hk (F.notSeq a ha) r
    · intro hl b o hb e; exact hk b o (fun q => hb (q.trans (hloc hl))) e
  rcases F.bound x i hx with ⟨hk | ⟨hk, c, hc⟩, hn⟩
  · obtain ⟨m, N, q⟩ := F.ns
    refine wpAny_storeName_local hk N (fun h' hn' hs' => ?_) (by rw [F.kind]; rfl)
    have keep : ∀ b o, b ≠ env.locals → s.heap.get? b = some o → h'.get? b = some o := fun b o hb e => (hs'.2 b hb).trans e
    have nS := F.notSeq env.locals (.inl rfl)
    refine main env.locals h' _ (.inl rfl) (fun _ => rfl) hs' ?_ ⟨_, hn', fun y j h1 h2 u h3 h4 => ?_⟩ fun y c' e => ?_
    · obtain ⟨o, _, _, ho, _⟩ := hn'; rw [ho]; simp
    · by_cases hyx : y = x
      · subst hyx
        rw [hx] at h1; cases h1
        have : u = v := by
          have hlt : i < ρ.length := by
            have := (List.getElem?_eq_some_iff.mp h3).1; simpa using this
          simp [hlt] at h3; exact h3.symm
        subst this
        exact ⟨w, by simp, vrel_same keep nS r⟩
      · have hij : i ≠ j := fun e => hyx (F.inj y x i (e ▸ h1) hx)
        rw [get_setV hij] at h3
        obtain ⟨w', g1, g2⟩ := q y j h1 h2 u h3 h4
        exact ⟨w', by simp [hyx, g1], vrel_same keep nS g2⟩
    · obtain ⟨ov, C, q'⟩ := F.cell y c' e
      have hne : c' ≠ env.locals := fun z => F.cloc y (z ▸ e)
      refine ⟨ov, C.sameBut hs' hne, fun j h1 h2 u h3 h4 => ?_⟩
      have hij : i ≠ j := fun z => by
        have := F.inj y x i (z ▸ h1) hx
        subst this
        rcases h2 with h2 | h2 <;> rw [hk] at h2 <;> cases h2
      rw [get_setV hij] at h3
      obtain ⟨w', g1, g2⟩ := q' j h1 h2 u h3 h4
      exact ⟨w', g1, vrel_same keep nS g2⟩
  · obtain ⟨ov, C, q⟩ := F.cell x c hc
    have st : wpAny (model Z.prog Z.w) A (cellOf env x >>= fun c => cellSet c (some w)) Q E s := by
      refine wpAny_bind (wpAny_cellOf hc (wpAny_cellSet C fun h' hc' hs' => ?_))
      have keep : ∀ b o, b ≠ c → s.heap.get? b = some o → h'.get? b = some o := fun b o hb e => (hs'.2 b hb).trans e
      have hown : own env c := .inr ⟨x, hc⟩
      have nS := F.notSeq c hown
      refine main c h' _ hown (fun q => by rcases hk with hk | hk <;> rw [hk] at q <;> cases q) hs' ?_ ?_ fun y c' e => ?_
      · obtain ⟨o, ho, _⟩ := hc'; rw [ho]; simp
      · obtain ⟨m, N, q'⟩ := F.ns
        refine ⟨m, N.sameBut hs' (fun z => F.cloc x (z ▸ hc)), fun y j h1 h2 u h3 h4 => ?_⟩
        have hij : i ≠ j := fun z => by
          have := F.inj y x i (z ▸ h1) hx
          subst this
          rcases hk with hk | hk <;> rw [hk] at h2 <;> cases h2
        rw [get_setV hij] at h3
        obtain ⟨w', g1, g2⟩ := q' y j h1 h2 u h3 h4
        exact ⟨w', g1, vrel_same keep nS g2⟩
      · by_cases hyx : y = x
        · subst hyx
          rw [hc] at e; cases e
          refine ⟨some w, hc', fun j h1 h2 u h3 h4 => ⟨w, rfl, ?_⟩⟩
          rw [hx] at h1; cases h1
          have : u = v := by
            have hlt : i < ρ.length := by
              have := (List.getElem?_eq_some_iff.mp h3).1; simpa using this
            simp [hlt] at h3; exact h3.symm
          subst this
          exact vrel_same keep nS r
        · obtain ⟨ov', C', q'⟩ := F.cell y c' e
          have hne : c' ≠ c := fun z => hyx (F.cinj y x c (z ▸ e) hc)
          refine ⟨ov', C'.sameBut hs' hne, fun j h1 h2 u h3 h4 => ?_⟩
          have hij : i ≠ j := fun z => hyx (F.inj y x i (z ▸ h1) hx)
          rw [get_setV hij] at h3
          obtain ⟨w', g1, g2⟩ := q' j h1 h2 u h3 h4
          exact ⟨w', g1, vrel_same keep nS g2⟩
    unfold storeName
    rcases hk with hk | hk
    · simp only [hk, F.kind]; exact st
    · simp only [hk, F.kind]; exact st
end
end Mine

set_option autoImplicit false
set_option linter.unusedVariables false
namespace Mine
open PySem PySem.Calls

theorem LIM_size : LIM ≤ sizeLine := by unfold LIM sizeLine; decide

section
variable {Z : Cx} {O : Addr → Prop} {A : Around} {β : List Addr} {σ : Store} {s : Shared} {h : Heap}

theorem Inv.notTT (I : Inv Z β σ h) {a : Addr} (ha : h.get? a = none) : ¬ TT β σ a := fun z => by obtain ⟨o, e⟩ := I.ex z.mem; rw [ha] at e; cases e

theorem listOf_inv {x : V} {v : Value} {l : List PyData} (I : Inv Z β σ h) (hl : listOf σ x = some l) (r : VRel β σ h v x) :
    ∃ a vs n, v = .ref a ∧ h.get? a = some (listO vs n) ∧ RelAll (TT β σ) h vs.toList l ∧ l.length ≤ LIM := by
  cases x with
  | un => cases hl
  | locs l => cases hl
  | d y =>
    cases r with
    | list e t z q => cases hl; exact ⟨_, _, _, rfl, e, q, z⟩
    | _ => cases hl
  | loc n =>
    obtain ⟨a, hb, rfl⟩ := r
    obtain ⟨vs, m, e, q, z⟩ := I.cell n a _ hb (lstAt_ok hl)
    exact ⟨a, vs, m, rfl, e, q, z⟩
theorem dctOf_inv {x : V} {v : Value} {l : List (Str × PyData)} (I : Inv Z β σ h) (hl : dctOf σ x = some l) (r : VRel β σ h v x) :
    ∃ n a, x = .loc n ∧ β[n]? = some a ∧ σ[n]? = some (.dct l) ∧ v = .ref a ∧ DictRel Z (TT β σ) h h a l := by
  cases x with
  | loc n =>
    obtain ⟨a, hb, rfl⟩ := r
    exact ⟨n, a, rfl, hb, dctAt_ok hl, rfl, I.cell n a _ hb (dctAt_ok hl)⟩
  | _ => cases hl

/-- a list made anew: a box, or data -/
theorem ev_mkList {t : Sem Value} {m : Bool} {l : List PyData} (I : Inv Z β σ s.heap) (hl : l.length ≤ LIM)
    (hw : wpAny (model Z.prog Z.w) A t (fun v s' => ∃ a vs n, v = .ref a ∧ s.heap.get? a = none ∧ s'.heap.get? a = some (listO vs n) ∧ (∀ b o, s.heap.get? b = some o → s'.heap.get? b = some o) ∧ s'.gens = s.gens ∧ s'.os = s.os ∧ RelAll (TT β σ) s.heap vs.toList l) (fun _ _ => False) s) :
    Ev Z O A t (mkList m l σ) VR β σ s := by
  unfold mkList
  cases m with
  | true =>
    refine Ev.done (wpAny_mono hw (fun v s' q => ?_) fun _ _ x => x)
    obtain ⟨a, vs, n, rfl, hf, e, hk, hg, ho, r⟩ := q
    have N := newBox (O := O) (c := .lst l) I hk hf hg ho ⟨vs, n, e, r, hl⟩
    exact ⟨_, N.1, N.2, a, by rw [← I.len]; simp, rfl⟩
  | false =>
    refine Ev.grown I (wpAny_mono hw (fun v s' q => ?_) fun _ _ x => x)
    obtain ⟨a, vs, n, rfl, hf, e, hk, hg, ho, r⟩ := q
    exact ⟨hk, hg, ho, .list e (I.notTT hf) hl (r.mono fun x o _ _ e _ t => ⟨hk x o e, t⟩)⟩
theorem ev_mkTup {t : Sem Value} {l : List PyData} (I : Inv Z β σ s.heap) (hl : l.length ≤ LIM)
    (hw : wpAny (model Z.prog Z.w) A t (fun v s' => ∃ a vs n, v = .ref a ∧ s.heap.get? a = none ∧ s'.heap.get? a = some (tupO vs n) ∧ (∀ b o, s.heap.get? b = some o → s'.heap.get? b = some o) ∧ s'.gens = s.gens ∧ s'.os = s.os ∧ RelAll (TT β σ) s.heap vs.toList l) (fun _ _ => False) s) :
    Ev Z O A t (.ok (.d (.tuple l)) σ) VR β σ s := by
  refine Ev.grown I (wpAny_mono hw (fun v s' q => ?_) fun _ _ x => x)
  obtain ⟨a, vs, n, rfl, hf, e, hk, hg, ho, r⟩ := q
  exact ⟨hk, hg, ho, .tuple e (I.notTT hf) hl (r.mono fun x o _ _ e _ t => ⟨hk x o e, t⟩)⟩
theorem fresh_size (h : Heap) : h.get? h.objs.size = none := by
  cases q : h.get? h.objs.size with
  | none => rfl
  | some o => exact absurd (Heap.lt_size q) (Nat.lt_irrefl _)

/-! ### ints and texts -/
theorem ev_flat {t : Sem Value} {x : PyData} (I : Inv Z β σ s.heap) (hw : wpAny (model Z.prog Z.w) A t (fun v s' => (∃ tk dr, s' = { s with toks := tk, drawn := dr }) ∧ Rel (TT β σ) s.heap v x) (fun _ _ => False) s) :
    Ev Z O A t (.ok (.d x) σ) VR β σ s := Ev.grown I (wpAny_mono hw (fun v s' q => by obtain ⟨⟨tk, dr, rfl⟩, r⟩ := q; exact ⟨fun _ _ e => e, rfl, rfl, r⟩) fun _ _ x => x)

theorem mulOk_ok {a b : Int} (h : mulOk a b = true) : IntMulOk a b := by
  unfold mulOk at h
  rcases Bool.or_eq_true_iff.mp h with h | h <;> have h := of_decide_eq_true h
  · exact .of_left (intBits_le_64 (by omega) (by omega))
  · exact .of_right (intBits_le_64 (by omega) (by omega))
theorem fdiv_pos {a b : Int} (hb : 0 < b) : a.fdiv b = a / b := Int.fdiv_eq_ediv_of_nonneg _ (Int.le_of_lt hb)
theorem fmod_pos {a b : Int} (hb : 0 < b) : a.fmod b = a % b := Int.fmod_eq_emod_of_nonneg _ (Int.le_of_lt hb)
theorem noPylong {a b : Int} (h0 : 0 < b) (h1 : b < 9223372036854775808) : Builtin.divisionGoesByPylong a b = false := by
  refine PyProof.noPylong_of_log2 ?_
  have : b.natAbs.log2 < 63 := (Nat.log2_lt (by omega)).mpr (by omega)
  omega

theorem flatten_foldl : ∀ (n : Nat) (a : Array Nat) (acc : Array Nat), ((List.replicate n a).foldl (· ++ ·) acc).toList = acc.toList ++ (List.replicate n a.toList).flatten
  | 0, a, acc => by simp
  | n + 1, a, acc => by
    rw [List.replicate_succ, List.foldl_cons, flatten_foldl n a, List.replicate_succ]
    simp
theorem txt_mul (x : Str) (n : Int) (h0 : 0 ≤ n) : Txt.mul x n = strOfL (List.replicate n.toNat (strL x)).flatten := by
  obtain ⟨a⟩ := x
  unfold Txt.mul strOfL strL
  split
  · have : n.toNat = 0 := by omega
    rw [this]; simp [Str.empty]
  · split
    · rename_i h1 h2
      rcases Bool.or_eq_true_iff.mp h2 with h2 | h2
      · have : n = 1 := by simpa using h2
        subst this; simp
      · have h3 : a = #[] := Array.eq_empty_of_size_eq_zero (by simpa [Str.length] using h2)
        subst h3; simp
    · have := flatten_foldl n.toNat a #[]
      simp only [Str.mk.injEq]
      apply Array.ext'
      rw [this]; simp
theorem strOk_L {x : Str} : PyData.strOk x = true ↔ ∀ c ∈ strL x, c < 0x110000 := by
  unfold PyData.strOk strL
  rw [← Array.all_toList, List.all_eq_true]
  simp
theorem strL_ofL (l : List Nat) : strL (strOfL l) = l := by simp [strL, strOfL]
theorem strGood_of {l : List Nat} (h : ∀ c ∈ l, c < 0x110000) (hl : l.length ≤ LIM) : strGood (strOfL l) := ⟨strOk_L.mpr (by rw [strL_ofL]; exact h), by simpa [strOfL] using hl⟩
theorem strGood.cps {x : Str} (h : strGood x) : ∀ c ∈ strL x, c < 0x110000 := strOk_L.mp h.1
theorem strGood.len {x : Str} (h : strGood x) : (strL x).length ≤ LIM := by simpa [strL] using h.2
theorem str_append (x y : Str) : x ++ y = strOfL (strL x ++ strL y) := by
  obtain ⟨a⟩ := x; obtain ⟨b⟩ := y
  show Str.append _ _ = _
  simp [Str.append, strOfL, strL]

noncomputable def opOf : BOp → Operator
  | .add => .Add
  | .sub => .Sub
  | .mul => .Mult
  | .fdiv => .FloorDiv
  | .mod => .Mod
  | .pow => .Pow

theorem add_tuple_any {t b : Addr} {vs ws : Array Value} {n n2 : Nat} {E : Value → Shared → Prop} {Q : Value → Shared → Prop} {prog : Program} {w : World} (ht : IsT s.heap t vs n) (hb : IsT s.heap b ws n2) (hsz : vs.size + ws.size ≤ sizeLine)
    (h1 : vs.isEmpty = true → Q (.ref b) s) (h2 : ws.isEmpty = true → Q (.ref t) s) (h3 : Q (.ref s.heap.objs.size) { s with heap := s.heap.push { cls := .type "tuple", data := .seq (vs ++ ws) } }) :
    wpAny (model prog w) A (binaryOp .Add (.ref t) (.ref b)) Q E s := by
  by_cases e1 : vs.isEmpty = true
  · exact concat_meets ⟨_, ht, rfl⟩ ⟨_, hb, rfl⟩ noFill_tuple_add seq_tuple_add F.slot_tuple_add F.entry_tuple_add (F.args_tuple_add_2 _ _) (AutoSeq1.tuple___add___tuple_tuple_0 t vs n b ws n2 e1) ⟨ht, hb, h1 e1⟩
  · by_cases e2 : ws.isEmpty = true
    · exact concat_meets ⟨_, ht, rfl⟩ ⟨_, hb, rfl⟩ noFill_tuple_add seq_tuple_add F.slot_tuple_add F.entry_tuple_add (F.args_tuple_add_2 _ _) (AutoSeq1.tuple___add___tuple_tuple_1 t vs n b ws n2 e1 e2) ⟨ht, hb, h2 e2⟩
    · exact P.add_tuple ht hb e1 e2 h3 hsz

theorem vint {v : Value} {h : Heap} {i : Int} (r : VRel β σ h v (.d (.int i))) : ∃ t, v = .int i t := by
  cases r; exact ⟨_, rfl⟩
theorem vbool {v : Value} {h : Heap} {b : Bool} (r : VRel β σ h v (.d (.bool b))) : v = .bool b := by
  cases r; rfl
theorem vstr {v : Value} {h : Heap} {x : Str} (r : VRel β σ h v (.d (.str x))) : ∃ t, v = .str x t ∧ strGood x := by
  cases r with
  | str _ t g => exact ⟨_, rfl, g⟩
theorem vtup {v : Value} {h : Heap} {l : List PyData} (r : VRel β σ h v (.d (.tuple l))) : ∃ (a : Addr) (vs : Array Value) (n : Nat), v = .ref a ∧ h.get? a = some (tupO vs n) ∧ ¬ TT β σ a ∧ l.length ≤ LIM ∧ RelAll (TT β σ) h vs.toList l := by
  cases r with
  | tuple e t z r => exact ⟨_, _, _, rfl, e, t, z, r⟩
theorem b2_sound {α γ ε ι : Type} {t : Sem ι} {o : Option α} {p : Option γ} {f : α → γ → Res ε} {z : Res ε} {R : ι → ε → List Addr → Store → Heap → Prop} (h1 : ∀ a b, o = some a → p = some b → Ev Z O A t (f a b) R β σ s) (h2 : Ev Z O A t z R β σ s) : Ev Z O A t (b2 o p f z) R β σ s := by
  rcases b2_cases o p f z with ⟨a, b, ha, hb, e⟩ | e
  · rw [e]; exact h1 a b ha hb
  · rw [e]; exact h2
theorem oc_sound {α ε ι : Type} {t : Sem ι} {o : Option α} {f : α → Res ε} {z : Res ε} {R : ι → ε → List Addr → Store → Heap → Prop} (h1 : ∀ a, o = some a → Ev Z O A t (f a) R β σ s) (h2 : Ev Z O A t z R β σ s) : Ev Z O A t (oc o f z) R β σ s := by
  rcases oc_cases o f z with ⟨a, ha, e⟩ | e
  · rw [e]; exact h1 a ha
  · rw [e]; exact h2
theorem if_sound {ε ι : Type} {t : Sem ι} {c : Prop} [Decidable c] {f : Res ε} {R : ι → ε → List Addr → Store → Heap → Prop} (h : c → Ev Z O A t f R β σ s) : Ev Z O A t (if c then f else .bad) R β σ s := by
  by_cases hc : c
  · rw [if_pos hc]; exact h hc
  · rw [if_neg hc]; exact Ev.bad
/-- two ints -/
theorem ints_sound {op : Operator} {x y : V} {v u : Value} {f : Int → Int → Res V} {z : Res V} (rx : VRel β σ s.heap v x) (ry : VRel β σ s.heap u y)
    (h1 : ∀ a b t t', Ev Z O A (binaryOp op (.int a t) (.int b t')) (f a b) VR β σ s) (h2 : Ev Z O A (binaryOp op v u) z VR β σ s) : Ev Z O A (binaryOp op v u) (b2 (intV x) (intV y) f z) VR β σ s :=
  b2_sound (fun a b ha hb => by
    have ha := intV_ok ha; have hb := intV_ok hb
    subst ha; subst hb
    obtain ⟨t, rfl⟩ := vint rx
    obtain ⟨t', rfl⟩ := vint ry
    exact h1 a b t t') h2
theorem binV_sound {op : BOp} {m : Bool} {x y : V} {v u : Value} (I : Inv Z β σ s.heap) (rx : VRel β σ s.heap v x) (ry : VRel β σ s.heap u y) : Ev Z O A (binaryOp (opOf op) v u) (binV op m x y σ) VR β σ s := by
  cases op with
  | add =>
    refine ints_sound rx ry (fun a b t t' => ev_flat I (P.add_int ⟨⟨_, _, rfl⟩, .int _ _⟩)) ?_
    refine b2_sound (fun x' y' hx hy => if_sound fun hm => ?_) (b2_sound (fun x' y' hx hy => if_sound fun hm => ?_) (b2_sound (fun l1 l2 h1 h2 => if_sound fun hm => ?_) Ev.bad))
    · have hx := strV_ok hx; have hy := strV_ok hy
      subst hx; subst hy
      obtain ⟨t, rfl, g⟩ := vstr rx
      obtain ⟨t', rfl, g'⟩ := vstr ry
      refine ev_flat I (PyProof.Rows.add_str (fun t' tk => ⟨⟨_, _, rfl⟩, ?_⟩) (Nat.le_trans hm LIM_size))
      rw [str_append]
      exact .str _ _ (strGood_of (fun c hc => (List.mem_append.mp hc).elim (g.cps c) (g'.cps c)) (by simpa [strL] using hm))
    · have hx := tupV_ok hx; have hy := tupV_ok hy
      subst hx; subst hy
      obtain ⟨a1, vs1, n1, rfl, e1, t1, z1, q1⟩ := vtup rx
      obtain ⟨a2, vs2, n2, rfl, e2, t2, z2, q2⟩ := vtup ry
      have l1 := q1.length
      have l2 := q2.length
      simp only [Array.length_toList] at l1 l2
      refine Ev.grown I (add_tuple_any e1 e2 (by rw [l1, l2]; exact Nat.le_trans hm LIM_size) (fun e => ⟨fun _ _ e => e, rfl, rfl, ?_⟩) (fun e => ⟨fun _ _ e => e, rfl, rfl, ?_⟩) ⟨fun b o e => Heap.get?_push_of_some _ e, rfl, rfl, ?_⟩)
      · have : x' = [] := List.eq_nil_of_length_eq_zero (by rw [← l1]; simpa using e)
        subst this
        exact .tuple e2 t2 z2 q2
      · have : y' = [] := List.eq_nil_of_length_eq_zero (by rw [← l2]; simpa using e)
        subst this
        rw [List.append_nil]
        exact .tuple e1 t1 z1 q1
      · refine .tuple (Heap.get?_push_size _ rfl) (I.notTT (fresh_size _)) (by simpa using hm) ?_
        have := q1.append q2
        rw [Array.toList_append]
        exact this.mono fun x o _ _ e _ t => ⟨Heap.get?_push_of_some _ e, t⟩
    · obtain ⟨a, vs, n, rfl, e1, q1, _⟩ := listOf_inv I h1 rx
      obtain ⟨b, ws, n2, rfl, e2, q2, _⟩ := listOf_inv I h2 ry
      have z1 := q1.length
      have z2 := q2.length
      simp only [Array.length_toList] at z1 z2
      refine ev_mkList I (by rw [List.length_append]; exact hm) (P.add_list e1 e2 ?_ (by rw [z1, z2]; exact Nat.le_trans hm LIM_size))
      exact ⟨_, _, _, rfl, fresh_size _, Heap.get?_push_size _ rfl, fun b o e => Heap.get?_push_of_some _ e, rfl, rfl, by rw [Array.toList_append]; exact q1.append q2⟩
  | sub => exact ints_sound rx ry (fun a b t t' => ev_flat I (P.sub_int ⟨⟨_, _, rfl⟩, .int _ _⟩)) Ev.bad
  | mul =>
    refine ints_sound rx ry (fun a b t t' => if_sound fun hm => ev_flat I (P.mul_int ⟨⟨_, _, rfl⟩, .int _ _⟩ (mulOk_ok hm))) (b2_sound (fun x' n hx hy => if_sound fun hm => ?_) Ev.bad)
    have hx := strV_ok hx; have hy := intV_ok hy
    subst hx; subst hy
    obtain ⟨t, rfl, g⟩ := vstr rx
    obtain ⟨t', rfl⟩ := vint ry
    have hlen : (List.replicate n.toNat (strL x')).flatten.length ≤ LIM := by
      have h1 : (strL x').length ≤ 1000 := by simpa [strL] using hm.2.2
      have h2 : n.toNat ≤ 1000 := by omega
      simp only [List.length_flatten, List.map_replicate, List.sum_replicate_nat, LIM]
      calc n.toNat * (strL x').length ≤ 1000 * 1000 := Nat.mul_le_mul h2 h1
        _ = 1000000 := rfl
    refine ev_flat I (SB.mul ⟨?_, fun _ _ => ?_, fun _ _ => ?_⟩ fun t' k => ⟨⟨_, _, rfl⟩, ?_⟩)
    · have : n ≤ 1000 := hm.2.1
      have : 0 ≤ n := hm.1
      simp; omega
    · have h1 : x'.length ≤ 1000 := hm.2.2
      have h2 : n ≤ 1000 := hm.2.1
      have h3 : 0 ≤ n := hm.1
      have h4 : (9223372036854775 : Int) ≤ (2 ^ 63 - 1) / n := by
        rcases Int.lt_or_eq_of_le h3 with h3 | h3
        · exact (Int.le_ediv_iff_mul_le h3).mpr (by omega)
        · subst h3; rename_i q _; omega
      omega
    · have h1 : x'.length * n.toNat ≤ 1000 * 1000 := Nat.mul_le_mul hm.2.2 (by omega)
      unfold Builtin.Str.tooLong
      simp [sizeLine]; omega
    · rw [txt_mul x' n hm.1]
      exact .str _ _ (strGood_of (fun c hc => by
        obtain ⟨l, hl, hc⟩ := List.mem_flatten.mp hc
        rw [(List.mem_replicate.mp hl).2] at hc
        exact g.cps c hc) hlen)
  | fdiv =>
    refine ints_sound rx ry (fun a b t t' => if_sound fun hm => ?_) Ev.bad
    rw [← fdiv_pos hm.1]
    exact ev_flat I (PyProof.Rows.floordiv_int (by omega) ⟨⟨_, _, rfl⟩, .int _ _⟩ (.inl (noPylong hm.1 hm.2)))
  | mod =>
    refine ints_sound rx ry (fun a b t t' => if_sound fun hm => ?_) Ev.bad
    rw [← fmod_pos hm]
    exact ev_flat I (PyProof.Rows.mod_int' (by omega) ⟨⟨_, _, rfl⟩, .int _ _⟩)
  | pow =>
    refine ints_sound rx ry (fun a b t t' => if_sound fun hm => ?_) Ev.bad
    obtain ⟨rfl, rfl⟩ := hm
    exact ev_flat I (PyProof.Rows.pow_int (by decide) (by decide +kernel) ⟨⟨_, _, rfl⟩, .int _ _⟩)
end
end Mine

set_option autoImplicit false
set_option linter.unusedVariables false
namespace Mine
open PySem PySem.Calls

section
variable {Z : Cx} {O : Addr → Prop} {A : Around} {β : List Addr} {σ : Store} {s : Shared} {h : Heap}

noncomputable def Sys (Z : Cx) : Prop := ∃ o, Z.h₀.get? sysModules = some o
theorem Sys.ne (Y : Sys Z) (I : Inv Z β σ h) {a : Addr} (ha : a ∈ β) : (a == sysModules) = false := by
  obtain ⟨o, e⟩ := Y
  have := I.fresh a ha
  cases q : a == sysModules with
  | false => rfl
  | true => rw [beq_iff_eq.mp q, e] at this; cases this

theorem ev_bool {t : Sem Value} {b : Bool} (I : Inv Z β σ s.heap) (hw : wpAny (model Z.prog Z.w) A t (fun v s' => (∃ tk dr, s' = { s with toks := tk, drawn := dr }) ∧ v = .bool b) (fun _ _ => False) s) :
    Ev Z O A t (.ok (.d (.bool b)) σ) VR β σ s := ev_flat I (wpAny_mono hw (fun v s' q => ⟨q.1, by rw [q.2]; exact .bool b⟩) fun _ _ x => x)

theorem empty_eq {T : Addr → Prop} {vs : Array Value} {l : List PyData} (q : RelAll T h vs.toList l) : vs.isEmpty = l.isEmpty := by
  have := q.length
  cases l with
  | nil => simp at this; simp [this]
  | cons x r =>
    simp at this
    have : vs.size ≠ 0 := by omega
    simp [Array.isEmpty, this]
theorem sizeLim {n : Nat} (hn : n ≤ LIM) : (n : Int) < 2 ^ 63 := by unfold LIM at hn; omega

/-! ### truth -/
theorem truthy_sound {x : V} {v : Value} {b : Bool} (Y : Sys Z) (I : Inv Z β σ s.heap) (r : VRel β σ s.heap v x) (ht : truthy σ x = some b) {Q : Bool → Shared → Prop} {E : Value → Shared → Prop}
    (h : ∀ tk, Q b { s with toks := tk }) : wpAny (model Z.prog Z.w) A (PySem.truthy v) Q E s := by
  have lst : ∀ {a : Addr} {vs : Array Value} {n : Nat} {l : List PyData}, s.heap.get? a = some (listO vs n) → RelAll (TT β σ) s.heap vs.toList l → l.length ≤ LIM → some (!l.isEmpty) = some b → wpAny (model Z.prog Z.w) A (PySem.truthy (.ref a)) Q E s := by
    intro a vs n l e q z hb
    have hz := q.length
    simp at hz
    refine wpAny_truthy_list ⟨_, e, rfl, _, rfl⟩ (by rw [hz]; exact sizeLim z) ?_
    rw [empty_eq q, Option.some.inj hb]
    exact h _
  cases x with
  | un => cases ht
  | locs l => cases ht
  | d y =>
    cases r with
    | none => cases ht; exact fun _ _ _ => h s.toks
    | bool b => cases ht; exact wpAny_truthy_bool (h s.toks)
    | int i t => cases ht; exact P.truthy_int (h s.toks)
    | str x t g =>
      refine P.truthy_str ?_ ?_
      · have := g.2; simp only [Str.length, LIM] at *; omega
      · have := h (s.toks + 1 + 1)
        cases ht
        rw [show ((x.length : Int) != 0) = (x.cps.size != 0) by simp only [Str.length]; cases x.cps.size <;> simp [bne] <;> omega]
        exact this
    | list e t z q => exact lst e q z ht
    | tuple e t z q =>
      have hz := q.length
      simp only [Array.length_toList] at hz
      refine PyProof.Rows.truthy_tuple ⟨_, e, rfl, _, rfl⟩ (by rw [hz]; exact sizeLim z) ?_
      rw [empty_eq q, Option.some.inj ht]
      exact h _
  | loc n =>
    obtain ⟨a, hb, rfl⟩ := r
    rcases oc_cases (lstAt σ n) (fun l => some (!l.isEmpty)) (oc (dctAt σ n) (fun l => some (!l.isEmpty)) none) with ⟨l, hc, e⟩ | e
    · obtain ⟨vs, m, e', q, z⟩ := I.cell n a _ hb (lstAt_ok hc)
      exact lst e' q z (e.symm.trans ht)
    · have ht : oc (dctAt σ n) (fun l => some (!l.isEmpty)) none = some b := e.symm.trans ht
      rcases oc_cases (dctAt σ n) (fun l => some (!l.isEmpty)) none with ⟨l, hc, e⟩ | e
      · obtain ⟨kvs, D, hk, q, _, z⟩ := I.cell n a _ hb (dctAt_ok hc)
        have hz : kvs.length = l.length := by have := congrArg List.length hk; simpa using this
        refine wpAny_truthy_dict (Y.ne I (List.mem_of_getElem? hb)) D (by rw [hz]; exact sizeLim z) ?_
        rw [show kvs.isEmpty = l.isEmpty by cases kvs <;> cases l <;> simp_all, Option.some.inj (e.symm.trans ht)]
        exact h _
      · rw [e] at ht; cases ht


/-! ### comparisons -/
theorem asD_reads {x : V} {v : Value} {d : PyData} (I : Inv Z β σ h) (r : VRel β σ h v x) (hd : asD σ x = some d) : (∃ as, Reads h v d as) ∧ d.canLay0 = true := by
  cases x with
  | un => cases hd
  | locs l => cases hd
  | d y => cases hd; exact ⟨Rel.reads r, Rel.lay r⟩
  | loc n =>
    obtain ⟨a, hb, rfl⟩ := r
    obtain ⟨l, hc, rfl⟩ := Option.map_eq_some_iff.mp hd
    obtain ⟨vs, m, e, q, z⟩ := I.cell n a _ hb (lstAt_ok hc)
    obtain ⟨as, qq⟩ := q.reads
    exact ⟨⟨_, .list e rfl rfl qq⟩, by simpa [PyData.canLay0] using q.lay⟩

noncomputable def copOf : COp → CmpOp
  | .eq => .Eq
  | .ne => .NotEq
  | .lt => .Lt
  | .le => .LtE
  | .gt => .Gt
  | .ge => .GtE
  | .isN => .Is
  | .isNotN => .IsNot
  | .isIn => .In
  | .notIn => .NotIn

/-- what a step is asked: the state but for its tokens -/
noncomputable def Tok1 (s : Shared) (Q : Value → Shared → Prop) (v : Value) : Prop := ∀ tk, Q v { s with toks := tk }

theorem lookup_valueAt : ∀ {kvs : List (Str × Value)} {l : List (Str × PyData)} {T : Addr → Prop}, kvs.map (·.1) = l.map (·.1) → RelAll T h (kvs.map (·.2)) (l.map (·.2)) → ∀ k, (valueAt kvs k = none ∧ l.lookup k = none) ∨ ∃ v d, valueAt kvs k = some v ∧ l.lookup k = some d ∧ Rel T h v d
  | [], [], _, _, _, k => .inl ⟨rfl, rfl⟩
  | [], _ :: _, _, e, _, _ => by simp at e
  | _ :: _, [], _, e, _, _ => by simp at e
  | (k₁, v) :: kvs, (k₂, d) :: l, T, e, .cons r rs, k => by
    simp at e
    obtain ⟨rfl, e⟩ := e
    by_cases hk : k₁ = k
    · subst hk
      exact .inr ⟨v, d, by simp [valueAt], by simp [List.lookup], r⟩
    · have ih := lookup_valueAt (T := T) e rs k
      have h1 : valueAt ((k₁, v) :: kvs) k = valueAt kvs k := by simp [valueAt, hk]
      have h2 : List.lookup k ((k₁, d) :: l) = l.lookup k := by
        have : (k == k₁) = false := by simpa using fun e => hk e.symm
        simp [List.lookup, this]
      rw [h1, h2]; exact ih

theorem keq_hits {T : Addr → Prop} {kb : List (Str × Value)} {m : List (Str × PyData)} (hu : A.units + 200 < cLine) (hkb : kb.map (·.1) = m.map (·.1)) (qb : RelAll T s.heap (kb.map (·.2)) (m.map (·.2))) :
    ∀ (ka : List (Str × Value)) (l : List (Str × PyData)), ka.map (·.1) = l.map (·.1) → RelAll T s.heap (ka.map (·.2)) (l.map (·.2)) → (l.all fun kv => flatD kv.2) = true → PySem.W.KeqHits A.in1 s kb ka (dctSub l m)
  | [], [], _, _, _ => .nil
  | [], _ :: _, e, _, _ => by simp at e
  | _ :: _, [], e, _, _ => by simp at e
  | (k, v) :: ka, (k', d) :: l, e, .cons r rs, hf => by
    simp only [List.map_cons, List.cons.injEq] at e
    obtain ⟨rfl, e⟩ := e
    simp only [List.all_cons, Bool.and_eq_true] at hf
    have ih := keq_hits hu hkb qb ka l e rs hf.2
    have hd : dctSub ((k, d) :: l) m = ((match m.lookup k with | some y => d.eqv y | none => false) && dctSub l m) := rfl
    rw [hd]
    rcases lookup_valueAt hkb qb k with ⟨h1, h2⟩ | ⟨w, y, h1, h2, r'⟩
    · rw [h2]; exact .miss h1
    · rw [h2]
      obtain ⟨as, ra⟩ := Rel.reads r
      obtain ⟨bs, rb⟩ := r'.reads
      have hd1 : d.depth ≤ 1 := by
        have := hf.1
        cases d <;> simp_all [flatD, PyData.depth]
      exact .hit h1 (SeqAt.eqAt_reads d y _ _ _ _ _ _ ra rb (Rel.lay r) r'.lay (by show A.units + 1 + _ < _; omega)) ih

theorem eqV_sound {x y : V} {v u : Value} {b : Bool} (Y : Sys Z) (I : Inv Z β σ s.heap) (hu : A.units + 200 < cLine) (rx : VRel β σ s.heap v x) (ry : VRel β σ s.heap u y) (hb : eqV σ x y = some b) {Q : Value → Shared → Prop} {E : Value → Shared → Prop} :
    (Tok1 s Q (.bool b) → wpAny (model Z.prog Z.w) A (compareOp .Eq v u) Q E s) ∧ (Tok1 s Q (.bool (!b)) → wpAny (model Z.prog Z.w) A (compareOp .NotEq v u) Q E s) := by
  unfold eqV at hb
  split at hb
  · rename_i d e hd he
    obtain ⟨⟨as, ra⟩, la⟩ := asD_reads I rx hd
    obtain ⟨⟨bs, rb⟩, lb⟩ := asD_reads I ry he
    unfold eqD at hb
    split at hb
    · rename_i hm
      cases hb
      exact ⟨fun q => SeqAt.compareEq_reads ra rb la lb (by omega) (q s.toks), fun q => SeqAt.compareNe_reads ra rb la lb (by omega) (q s.toks)⟩
    · cases hb
  · split at hb
    · rename_i l m hl hm
      split at hb
      · rename_i hf
        cases hb
        obtain ⟨hfl, hfm⟩ := Bool.and_eq_true_iff.mp hf
        obtain ⟨n, a, rfl, hb, hc, rfl, ka, Da, hka, qa, hga, za⟩ := dctOf_inv I hl rx
        obtain ⟨n', a', rfl, hb', hc', rfl, kb, Db, hkb, qb, hgb, zb⟩ := dctOf_inv I hm ry
        have la : ka.length = l.length := by have := congrArg List.length hka; simpa using this
        have lb : kb.length = m.length := by have := congrArg List.length hkb; simpa using this
        have hh := keq_hits hu hkb qb ka l hka qa hfl
        rw [← la, ← lb]
        exact ⟨fun q => PySem.W.keq_eq (Y.ne I (List.mem_of_getElem? hb)) (Y.ne I (List.mem_of_getElem? hb')) Da Db (by omega) (fun _ => hh) (q s.toks),
          fun q => PySem.W.keq_ne (Y.ne I (List.mem_of_getElem? hb)) (Y.ne I (List.mem_of_getElem? hb')) Da Db (by omega) (fun _ => hh) (q s.toks)⟩
      · cases hb
    · cases hb

theorem notIn_of {prog : Program} {w : World} {K : Type} [DecidableEq K] {knd : KeyKind prog w K} {E : Value → Shared → Prop} {d : Addr} {k : K} {key : Value} {f : K → Option Value} {Q : Value → Shared → Prop} (hkey : knd.is k key = true) (hd : (d == sysModules) = false) (hm : s.heap.MapOf knd d f)
    (h : Q (.bool (!(f k).isSome)) { s with toks := s.toks + 1 }) : wpAny (model prog w) A (compareOp .NotIn key (.ref d)) Q E s := by
  show wpAny _ _ (do return .bool (!(← contains (.ref d) key))) Q E s
  refine wpAny_bind ?_
  unfold contains
  try with_reducible refine wpAny_holding ?_
  refine wpAny_bind (wpAny_specialOf hm.typeIs slot_dict_contains.lookup ?_)
  show wpAny _ _ (if (some (Value.builtin "dict.__contains__") == some Value.none) = true then _ else _) _ E s
  rw [if_neg (by rw [beq_builtin_none]; exact Bool.false_ne_true)]
  refine wpAny_bind (wpAny_callSpecialUnlessNone?_slot (name := Str.ofString "__contains__") hm.typeIs slot_dict_contains
    (wpAny_call_entry slot_dict_contains hm.typeIs entry_dict_contains ?_ (args_dict_contains _ _)))
  show wpAny _ _ (dictGet d key >>= _) _ _ s
  refine wpAny_bind (wpAny_dictGet_of hkey hm ?_)
  cases hf : f k with
  | some v =>
    rw [hf] at h
    show wpAny _ _ (ret (.bool true)) _ _ _
    exact wpAny_pure ⟨_, rfl, wpAny_truthy_bool (wpAny_pure h)⟩
  | none =>
    rw [hf] at h
    show wpAny _ _ (Builtin.Dict.pendingKey? d key >>= _) _ _ _
    exact wpAny_bind (wpAny_pendingKey_other hd (wpAny_pure ⟨_, rfl, wpAny_truthy_bool (wpAny_pure h)⟩))

theorem in_one (x y : Str) (hx : x.cps.size = 1) : (!(Builtin.Str.occurrences y x 0 y.length 1).isEmpty) = (strL y).any fun c => strL x == [c] := by
  obtain ⟨a⟩ := x
  obtain ⟨c, rfl⟩ : ∃ c, a = #[c] := by
    match a, hx with
    | ⟨[c]⟩, _ => exact ⟨c, rfl⟩
  rw [StrLaws.found_one]
  unfold strL
  show decide (c ∈ y.cps.toList) = y.cps.toList.any fun d => [c] == [d]
  rw [Bool.eq_iff_iff, decide_eq_true_iff, List.any_eq_true]
  constructor
  · exact fun m => ⟨c, m, by rw [beq_iff_eq]⟩
  · rintro ⟨d, m, e⟩
    rw [beq_iff_eq] at e
    cases e; exact m

theorem oc_some {α γ : Type} {o : Option α} {f : α → Option γ} {z : Option γ} {c : γ} (h : oc o f z = some c) : (∃ a, o = some a ∧ f a = some c) ∨ z = some c := by
  rcases oc_cases o f z with ⟨a, ha, e⟩ | e
  · exact .inl ⟨a, ha, e.symm.trans h⟩
  · exact .inr (e.symm.trans h)
theorem oc_one {α γ : Type} {o : Option α} {f : α → Option γ} {c : γ} (h : oc o f none = some c) : ∃ a, o = some a ∧ f a = some c := by
  rcases oc_some h with h | h
  · exact h
  · cases h
theorem b2_some {α γ ι : Type} {o : Option α} {p : Option γ} {f : α → γ → Option ι} {z : Option ι} {c : ι} (h : b2 o p f z = some c) : (∃ a b, o = some a ∧ p = some b ∧ f a b = some c) ∨ z = some c := by
  rcases b2_cases o p f z with ⟨a, b, ha, hb, e⟩ | e
  · exact .inl ⟨a, b, ha, hb, e.symm.trans h⟩
  · exact .inr (e.symm.trans h)
theorem inL1_ok {x : PyData} {l : List PyData} {b : Bool} (h : inL1 x l = some b) : min (PyData.depthAll l) x.depth ≤ 64 ∧ (l.any fun y => y.eqv x) = b := by
  unfold inL1 at h
  by_cases hc : min (PyData.depthAll l) x.depth ≤ 64
  · rw [if_pos hc] at h; exact ⟨hc, Option.some.inj h⟩
  · rw [if_neg hc] at h; cases h
theorem inV_sound {x y : V} {v u : Value} {b : Bool} (Y : Sys Z) (I : Inv Z β σ s.heap) (hu : A.units + 200 < cLine) (rx : VRel β σ s.heap v x) (ry : VRel β σ s.heap u y) (hb : cmpV.inV x y σ = some b) {Q : Value → Shared → Prop} {E : Value → Shared → Prop} :
    (Tok1 s Q (.bool b) → wpAny (model Z.prog Z.w) A (compareOp .In v u) Q E s) ∧ (Tok1 s Q (.bool (!b)) → wpAny (model Z.prog Z.w) A (compareOp .NotIn v u) Q E s) := by
  obtain ⟨dx, hx, hb⟩ := oc_one hb
  rw [pureD_ok hx] at rx
  rcases b2_some hb with ⟨xs, ys, h1, h2, hb⟩ | hb
  · rw [strD_ok h1] at rx
    rw [strV_ok h2] at ry
    obtain ⟨t, rfl, g⟩ := vstr rx
    obtain ⟨t', rfl, g'⟩ := vstr ry
    by_cases hs : xs.cps.size = 1
    · rw [if_pos hs] at hb
      cases hb
      rw [← in_one xs ys hs]
      exact ⟨fun q => P.in_str (q s.toks), fun q => P.notIn_str (q s.toks)⟩
    · rw [if_neg hs] at hb; cases hb
  · obtain ⟨as, ra⟩ := Rel.reads rx
    have la := Rel.lay rx
    rcases oc_some hb with ⟨l, hl, hb⟩ | hb
    · rw [tupV_ok hl] at ry
      obtain ⟨hm, rfl⟩ := inL1_ok hb
      obtain ⟨bs, rb⟩ := Rel.reads ry
      have lb := Rel.lay ry
      rw [PyData.canLay0] at lb
      exact ⟨fun q => SeqAt.in_tuple_reads rb ra lb la (by omega) (q s.toks), fun q => SeqAt.notIn_tuple_reads rb ra lb la (by omega) (q s.toks)⟩
    · rcases oc_some hb with ⟨l, hl, hb⟩ | hb
      · obtain ⟨a, vs, n, rfl, e, q, z⟩ := listOf_inv I hl ry
        obtain ⟨bs, rb⟩ := q.reads
        have rb' : Reads s.heap (.ref a) (.list l) _ := .list e rfl rfl rb
        obtain ⟨hm, rfl⟩ := inL1_ok hb
        exact ⟨fun q' => SeqAt.in_list_reads rb' ra q.lay la (by omega) (q' s.toks), fun q' => SeqAt.notIn_list_reads rb' ra q.lay la (by omega) (q' s.toks)⟩
      · rcases b2_some hb with ⟨k, kvs', hk0, hdd, hb⟩ | hb
        · cases hb
          rw [strD_ok hk0] at rx
          obtain ⟨n, a, rfl, hb, hc, rfl, kvs, D, hk, q, _, z⟩ := dctOf_inv I hdd ry
          obtain ⟨t, rfl, g⟩ := vstr rx
          have e : (valueAt kvs k).isSome = (List.lookup k kvs').isSome := by
            rcases lookup_valueAt hk q k with ⟨h1, h2⟩ | ⟨v, d, h1, h2, _⟩ <;> rw [h1, h2] <;> rfl
          have ne := Y.ne I (List.mem_of_getElem? hb)
          exact ⟨fun q' => wpAny_in_of (strKind_is Z.prog Z.w k t) ne D.mapOf (by rw [e]; exact q' _), fun q' => notIn_of (strKind_is Z.prog Z.w k t) ne D.mapOf (by rw [e]; exact q' _)⟩
        · cases hb

theorem ints_of {x y : V} {v u : Value} {f : Int → Int → Option Bool} {b : Bool} (rx : VRel β σ h v x) (ry : VRel β σ h u y) (hb : b2 (intV x) (intV y) f none = some b) : ∃ i j t t', v = .int i t ∧ u = .int j t' ∧ f i j = some b := by
  rcases b2_some hb with ⟨i, j, hi, hj, e⟩ | e
  · rw [intV_ok hi] at rx
    rw [intV_ok hj] at ry
    obtain ⟨t, rfl⟩ := vint rx
    obtain ⟨t', rfl⟩ := vint ry
    exact ⟨i, j, t, t', rfl, rfl, e⟩
  · cases e
theorem none_of {x y : V} {v u : Value} {f : PyData → Option Bool} {c : Option Bool} {b : Bool} (rx : VRel β σ h v x) (ry : VRel β σ h u y) (hb : oc (noneV y) (fun _ => oc (pureD x) f (oc (locV x) (fun _ => c) none)) none = some b) :
    u = .none ∧ ((∃ d, x = .d d ∧ f d = some b) ∨ (∃ a, v = .ref a ∧ c = some b)) := by
  rcases oc_some hb with ⟨_, hy, hb⟩ | hb
  · rw [noneV_ok hy] at ry
    refine ⟨by cases ry; rfl, ?_⟩
    rcases oc_some hb with ⟨d, hd, hb⟩ | hb
    · exact .inl ⟨d, pureD_ok hd, hb⟩
    · rcases oc_some hb with ⟨n, hn, hb⟩ | hb
      · rw [locV_ok hn] at rx
        obtain ⟨a, _, rfl⟩ := rx
        exact .inr ⟨a, rfl, hb⟩
      · cases hb
  · cases hb
theorem cmpV_sound {op : COp} {x y : V} {v u : Value} {b : Bool} (Y : Sys Z) (I : Inv Z β σ s.heap) (hu : A.units + 200 < cLine) (rx : VRel β σ s.heap v x) (ry : VRel β σ s.heap u y) (hb : cmpV op x y σ = some b) {Q : Value → Shared → Prop} {E : Value → Shared → Prop}
    (q : Tok1 s Q (.bool b)) : wpAny (model Z.prog Z.w) A (compareOp (copOf op) v u) Q E s := by
  cases op with
  | eq => exact (eqV_sound Y I hu rx ry hb).1 q
  | ne =>
    obtain ⟨c, hc, rfl⟩ := Option.map_eq_some_iff.mp (show (eqV σ x y).map (!·) = some b from hb)
    exact (eqV_sound Y I hu rx ry hc).2 q
  | lt =>
    obtain ⟨i, j, t, t', rfl, rfl, e⟩ := ints_of rx ry hb
    cases e; exact P.lt_int (q s.toks)
  | le =>
    obtain ⟨i, j, t, t', rfl, rfl, e⟩ := ints_of rx ry hb
    cases e; exact P.le_int (q s.toks)
  | gt =>
    obtain ⟨i, j, t, t', rfl, rfl, e⟩ := ints_of rx ry hb
    cases e; exact P.gt_int (q s.toks)
  | ge =>
    obtain ⟨i, j, t, t', rfl, rfl, e⟩ := ints_of rx ry hb
    cases e; exact P.ge_int (q s.toks)
  | isN =>
    obtain ⟨rfl, ⟨d, rfl, e⟩ | ⟨a, rfl, e⟩⟩ := none_of rx ry hb
    · have q := q s.toks
      cases e
      cases rx <;> exact wpAny_is_plain rfl q
    · cases e; exact wpAny_is_plain rfl (q s.toks)
  | isNotN =>
    obtain ⟨rfl, ⟨d, rfl, e⟩ | ⟨a, rfl, e⟩⟩ := none_of rx ry hb
    · have q := q s.toks
      cases e
      cases rx <;> exact wpAny_isNot_plain rfl q
    · cases e; exact wpAny_isNot_plain rfl (q s.toks)
  | isIn => exact (inV_sound Y I hu rx ry hb).1 q
  | notIn =>
    obtain ⟨c, hc, rfl⟩ := Option.map_eq_some_iff.mp (show (cmpV.inV x y σ).map (!·) = some b from hb)
    exact (inV_sound Y I hu rx ry hc).2 q
end
end Mine

set_option autoImplicit false
set_option linter.unusedVariables false
namespace Mine
open PySem PySem.Calls

section
variable {Z : Cx} {O : Addr → Prop} {A : Around} {β : List Addr} {σ : Store} {s : Shared} {h : Heap}

theorem index_some {n k : Nat} {i : Int} (h : index n i = some k) : seqIndex? i n = some k ∧ -(n : Int) ≤ i ∧ i < n ∧ k < n := by
  unfold index at h
  unfold seqIndex?
  split at h
  · split at h
    · cases h
      have : ¬ i < 0 := by omega
      refine ⟨?_, by omega, by omega, by omega⟩
      simp only [this, if_false]
      rw [if_pos (by simp; omega)]
    · cases h
  · split at h
    · cases h
      have : i < 0 := by omega
      refine ⟨?_, by omega, by omega, by omega⟩
      simp only [this, if_true]
      rw [if_pos (by simp; omega)]
    · cases h

/-- an item: its type, its slot, its value -/
noncomputable def ItemsOf (Z : Cx) (A : Around) (E : Value → Shared → Prop) (v u : Value) (Q : Value → Shared → Prop) (s : Shared) : Prop :=
  ∃ T id, s.TypeIs v T ∧ typeLookup (.type T) "__getitem__" = pure (some (.builtin id)) ∧ wpAny (model Z.prog Z.w) A (getItem v u) Q E s

theorem getitem_list {a : Addr} {vs : Array Value} {n : Nat} {i : Int} {t : Tok} {y : Value} {E : Value → Shared → Prop} {Q : Value → Shared → Prop} (e : s.heap.get? a = some (listO vs n)) (h0 : 0 ≤ i) (hz : vs.size ≤ LIM) (hy : vs[i.toNat]? = some y) (h : Q y s) :
    ItemsOf Z A E (.ref a) (.int i t) Q s :=
  ⟨"list", _, ⟨_, e, rfl⟩, slot_list_getitem.lookup, wpAny_getItem_list ⟨_, e, rfl, _, rfl⟩ h0 (by
    have := (Array.getElem?_eq_some_iff.mp hy).1
    unfold LIM at hz; omega) hy h⟩

theorem idxV_sound {x y z : V} {v u : Value} (Y : Sys Z) (I : Inv Z β σ s.heap) (rx : VRel β σ s.heap v x) (ry : VRel β σ s.heap u y) (hb : idxV x y σ = some z) {Q : Value → Shared → Prop} {E : Value → Shared → Prop}
    (q : ∀ w tk, VRel β σ s.heap w z → Q w { s with toks := tk }) : ItemsOf Z A E v u Q s := by
  rcases oc_some hb with ⟨i, hi, hb⟩ | hb
  · rw [intV_ok hi] at ry
    obtain ⟨ti, rfl⟩ := vint ry
    rcases oc_some hb with ⟨l, hl, hb⟩ | hb
    · rw [tupV_ok hl] at rx
      obtain ⟨a, vs, n, rfl, e, t, zz, r⟩ := vtup rx
      obtain ⟨k, hk, hb⟩ := Option.bind_eq_some_iff.mp hb
      obtain ⟨d, hd, rfl⟩ := Option.map_eq_some_iff.mp hb
      obtain ⟨h1, h2, h3, h4⟩ := index_some hk
      obtain ⟨w, hw, rw'⟩ := r.get hd
      have hl := r.length
      simp only [Array.length_toList] at hl
      exact ⟨"tuple", _, ⟨_, e, rfl⟩, F.slot_tuple_getitem.lookup, P.getItem_tuple e (by unfold LIM at zz; omega) (by unfold LIM at zz; omega) (by rw [hl]; exact h1) (by simpa using hw) (q w s.toks rw')⟩
    · rcases oc_some hb with ⟨x', hx, hb⟩ | hb
      · rw [strV_ok hx] at rx
        obtain ⟨t, rfl, g⟩ := vstr rx
        obtain ⟨k, hk, hb⟩ := Option.bind_eq_some_iff.mp hb
        obtain ⟨c, hd, rfl⟩ := Option.map_eq_some_iff.mp hb
        obtain ⟨h1, h2, h3, h4⟩ := index_some hk
        have hl := g.len
        have hlen : x'.length = (strL x').length := by simp [Str.length, strL]
        have hc : x'.cps[k]? = some c := by simpa [strL] using hd
        refine ⟨"str", _, typeIs_str s x' t, F.slot_str_getitem.lookup, P.getItem_str ?_ (c := c) ?_ (q _ _ (.str _ _ ?_))⟩
        · unfold LIM at hl; simp; omega
        · rw [hlen, h1, Option.bind_some]; exact hc
        · exact strGood_of (fun d hd' => by simp at hd'; subst hd'; exact g.cps d (List.mem_of_getElem? hd)) (by simp [LIM])
      · rcases oc_some hb with ⟨l, hl, hb⟩ | hb
        · rw [locsV_ok hl] at rx
          obtain ⟨a, vs, n, rfl, e, t, hl, hm⟩ := rx
          by_cases h0 : 0 ≤ i
          · rw [if_pos h0] at hb
            obtain ⟨k, hd, rfl⟩ := Option.map_eq_some_iff.mp hb
            obtain ⟨b, h1, h2⟩ := hm _ _ hd
            exact getitem_list e h0 (by have := hl.1; simp only [Array.length_toList] at this; rw [this]; exact hl.2) h2 (q _ s.toks ⟨b, h1, rfl⟩)
          · rw [if_neg h0] at hb; cases hb
        · rcases oc_some hb with ⟨l, hl, hb⟩ | hb
          · obtain ⟨a, vs, n, rfl, e, r, zz⟩ := listOf_inv I hl rx
            by_cases h0 : 0 ≤ i
            · rw [if_pos h0] at hb
              obtain ⟨d, hd, rfl⟩ := Option.map_eq_some_iff.mp hb
              obtain ⟨w, hw, rw'⟩ := r.get hd
              have hz := r.length
              simp only [Array.length_toList] at hz
              exact getitem_list e h0 (by rw [hz]; exact zz) (by simpa using hw) (q w s.toks rw')
            · rw [if_neg h0] at hb; cases hb
          · cases hb
  · rcases b2_some hb with ⟨k, l, hk0, hl, hbF⟩ | hb
    · clear hb
      obtain ⟨n, a, rfl, hb', hc, rfl, kvs, D, hk, r, _, zz⟩ := dctOf_inv I hl rx
      rw [strV_ok hk0] at ry
      obtain ⟨t, rfl, g⟩ := vstr ry
      obtain ⟨d', hd', rfl⟩ := Option.map_eq_some_iff.mp hbF
      rcases lookup_valueAt hk r k with ⟨h1, h2⟩ | ⟨w, d, h1, h2, rw'⟩
      · rw [h2] at hd'; cases hd'
      · rw [h2] at hd'; cases hd'
        exact ⟨"dict", _, D.typeIs, slot_dict_getitem.lookup, wpAny_getItem_of (strKind_is Z.prog Z.w k t) D.mapOf h1 (q w _ rw')⟩
    · cases hb

/-- a subscript behind its parts -/
theorem subscript_tail {value slice : Expr} {pos : Pos} {v u : Value} {Q : Value → Shared → Prop} {E : Value → Shared → Prop} (h : ItemsOf Z A E v u Q s) :
    wpAny (model Z.prog Z.w) A (do standAt pos; let r ← subscripted slice (← getitemInPython v) v u; letTemporaryGo value v r; pure r) Q E s := by
  obtain ⟨T, id, hT, hl, hw⟩ := h
  refine wpAny_bind (wpAny_standAt ?_)
  have hs : ∃ ops, subscripted slice false v u = operate ops (getItem v u) := by
    unfold subscripted
    split
    · exact ⟨_, rfl⟩
    · rename_i hh; cases hh
    · exact ⟨_, rfl⟩
  obtain ⟨ops, hs⟩ := hs
  refine wpAny_bind ?_
  rw [getitemInPython_of_ne hT.not_modules]
  refine wpAny_bind (wpAny_specialOf hT hl ?_)
  have fin : wpAny (model Z.prog Z.w) A (subscripted slice false v u) (fun r s₃ => wpAny (model Z.prog Z.w) A (letTemporaryGo value v r >>= fun _ => pure r) Q E s₃) E s := by
    rw [hs]
    exact wpAny_operating (wpAny_mono hw (fun r s₃ h₃ => wpAny_bind (wpAny_letTemporaryGo (wpAny_pure h₃))) fun _ _ x => x)
  first
    | exact wpAny_pure (wpAny_bind fin)
    | exact wpAny_bind (wpAny_pure (wpAny_bind fin))
    | exact wpAny_bind fin

/-! ### slices -/
theorem clip_clipAt (n : Nat) (i : Int) : clip n i = clipAt n i := rfl
theorem slicePick_sliceL (vs : Array Value) (lo hi : Option Int) : (slicePick vs lo hi none).toList = sliceL vs.toList lo hi := by
  rw [slicePick_plain]
  unfold sliceL
  cases lo <;> cases hi <;> simp [clip_clipAt]
theorem sliceL_length {α : Type} (l : List α) (lo hi : Option Int) : (sliceL l lo hi).length ≤ l.length := by
  unfold sliceL
  simp only [List.length_take, List.length_drop]; omega
theorem RelAll.slice {T : Addr → Prop} {vs : List Value} {ds : List PyData} (r : RelAll T h vs ds) (lo hi : Option Int) : RelAll T h (sliceL vs lo hi) (sliceL ds lo hi) := by
  unfold sliceL
  rw [r.length]
  exact (r.drop _).take _

theorem strSlice_eq (x : Str) (lo hi : Option Int) : (Builtin.Str.strSliceIndices lo hi 1 x.length).filterMap (x.cps[·]?) = sliceL (strL x) lo hi := by
  have e : Builtin.Str.strSliceIndices lo hi 1 x.length = sliceRange (((lo.elim 0 (clipAt x.length) : Nat) : Int)) (((hi.elim x.length (clipAt x.length) : Nat) : Int)) 1 := by
    unfold Builtin.Str.strSliceIndices
    cases lo <;> cases hi <;> simp [clipAt_cast]
  rw [e, sliceRange_one, pick_run]
  unfold sliceL strL
  cases lo <;> cases hi <;> simp [clip_clipAt, Str.length]

theorem tuple_adjust (lo hi : Option Int) (n : Nat) : Builtin.Slice.sliceAdjust lo hi 1 (n : Int) = (((lo.elim 0 (clipAt n) : Nat) : Int), ((hi.elim n (clipAt n) : Nat) : Int)) := by
  unfold Builtin.Slice.sliceAdjust
  have h1 : ¬ ((1 : Int) < 0) := by omega
  simp only [h1, if_false]
  congr 1
  · cases lo with
    | none => rfl
    | some i =>
      show (if i < 0 then max (i + n) 0 else min i n) = _
      have := clipAt_cast n i
      simp only [Option.elim]
      rw [this]; split <;> omega
  · cases hi with
    | none => rfl
    | some i =>
      show (if i < 0 then max (i + n) 0 else min i n) = _
      have := clipAt_cast n i
      simp only [Option.elim]
      rw [this]; split <;> omega
theorem tuple_places (a b : Nat) : Builtin.Slice.slicePlaces (a : Int) (b : Int) 1 = b - a := by
  unfold Builtin.Slice.slicePlaces
  have h1 : (1 : Int) > 0 := by omega
  simp only [h1, if_true, Int.ediv_one]
  split <;> omega
theorem slicePart_of {prog : Program} {w : World} {E : Value → Shared → Prop} {v : Value} {p : Option Int} {Q : Option Int → Shared → Prop} (hp : IsPart v p) (h : Q p s) : wpAny (model prog w) A (Builtin.Slice.slicePartIndex v) Q E s := by
  cases hp with
  | none => exact PyProof.Rows.slicePart_none h
  | int i t => exact PyProof.Rows.slicePart_int h

theorem getItem_tuple_slice {prog : Program} {w : World} {E : Value → Shared → Prop} {t sl : Addr} {items : Array Value} {n : Nat} {vl vu : Value} {lo hi : Option Int} {Q : Value → Shared → Prop} (ht : s.heap.get? t = some (tupO items n))
    (hs : s.heap.IsSliceOf sl vl vu .none) (pl : IsPart vl lo) (pu : IsPart vu hi) (hsz : items.size ≤ sizeLine)
    (h1 : sliceL items.toList lo hi = items.toList → Q (.ref t) s) (h2 : Q (.ref s.heap.objs.size) { s with heap := s.heap.push { cls := .type "tuple", data := .seq (sliceL items.toList lo hi).toArray } }) :
    wpAny (model prog w) A (getItem (.ref t) (.ref sl)) Q E s := by
  have ht' : PyProof.Rows.IsTup s.heap t items := ⟨_, ht, rfl, _, rfl⟩
  obtain ⟨os, hos, hcs, hds⟩ := id hs
  have hTs : s.TypeIs (.ref sl) "slice" := ⟨os, hos, hcs⟩
  have hlen := sliceL_length items.toList lo hi
  have hdrop : sizeOk (.seq (sliceL items.toList lo hi).toArray) := by
    show (sliceL items.toList lo hi).toArray.size ≤ sizeLine
    rw [List.size_toArray]
    simp at hlen
    omega
  unfold getItem
  try with_reducible refine wpAny_holding ?_
  first | refine wpAny_bind (wpAny_pure ?_) | skip
  refine wpAny_bind (wpAny_sequenceKey ht'.typeIs (by decide) ?_)
  refine wpAny_bind (wpAny_callSpecial?_slot (name := Str.ofString "__getitem__") ht'.typeIs PyProof.Rows.slot_tuple_getitem
    (wpAny_call_entry PyProof.Rows.slot_tuple_getitem ht'.typeIs PyProof.Rows.entry_tuple_getitem ?_ (PyProof.Rows.args_tuple_getitem _ _)))
  show wpAny _ _ (Builtin.Tuple.tupleItemsOf (.ref t) >>= _) _ _ s
  refine wpAny_bind (PyProof.Rows.tupleItemsOf_ ht' ?_)
  refine wpAny_bind (wpAny_typeOf hTs ?_)
  rw [if_pos (by decide)]
  have app : ∀ Q' : Int × Int × Nat → Shared → Prop, Q' (((lo.elim 0 (clipAt items.size) : Nat) : Int), 1, hi.elim items.size (clipAt items.size) - lo.elim 0 (clipAt items.size)) s →
      wpAny (model prog w) A.in1 (Builtin.Slice.sliceApplied (.ref sl) (pure (items.size : Int))) Q' E s := by
    intro Q' hq
    unfold Builtin.Slice.sliceApplied Builtin.Slice.sliceFields
    refine wpAny_bind (wpAny_bind (wpAny_field hos hds (x := vl) rfl (wpAny_bind (wpAny_field hos hds (x := vu) rfl (wpAny_bind (wpAny_field hos hds (x := .none) rfl (wpAny_pure ?_)))))))
    refine wpAny_bind (PyProof.Rows.slicePart_none ?_)
    show wpAny _ _ (if ((1 : Int) == 0) = true then _ else _) _ _ s
    rw [if_neg (by decide)]
    refine wpAny_bind (slicePart_of pl (wpAny_bind (slicePart_of pu (wpAny_bind (wpAny_pure ?_)))))
    show wpAny _ _ (match Builtin.Slice.sliceAdjust lo hi 1 (items.size : Int) with | (lo, hi) => pure (lo, (1 : Int), Builtin.Slice.slicePlaces lo hi 1)) _ _ s
    rw [tuple_adjust]
    show wpAny _ _ (pure (((lo.elim 0 (clipAt items.size) : Nat) : Int), (1 : Int), Builtin.Slice.slicePlaces ((lo.elim 0 (clipAt items.size) : Nat) : Int) ((hi.elim items.size (clipAt items.size) : Nat) : Int) 1)) _ _ s
    rw [tuple_places]
    exact wpAny_pure hq
  refine wpAny_bind (app _ ?_)
  have pick : ((List.range (hi.elim items.size (clipAt items.size) - lo.elim 0 (clipAt items.size))).filterMap fun (k : Nat) => items[(((lo.elim 0 (clipAt items.size) : Nat) : Int) + (k : Int) * 1).toNat]?).toArray = (sliceL items.toList lo hi).toArray := by
    have e : (fun (k : Nat) => items[(((lo.elim 0 (clipAt items.size) : Nat) : Int) + (k : Int) * 1).toNat]?) = fun k => items[lo.elim 0 (clipAt items.size) + k]? := by
      funext k
      congr 1
      omega
    rw [e]
    have := pick_run items (lo.elim 0 (clipAt items.size)) (hi.elim items.size (clipAt items.size) - lo.elim 0 (clipAt items.size))
    rw [List.filterMap_map] at this
    have e2 : ((fun x => items[x]?) ∘ fun x => lo.elim 0 (clipAt items.size) + x) = fun k => items[lo.elim 0 (clipAt items.size) + k]? := rfl
    rw [e2] at this
    rw [this]
    unfold sliceL
    cases lo <;> cases hi <;> simp [clip_clipAt]
  show wpAny _ _ (if ((((lo.elim 0 (clipAt items.size) : Nat) : Int) == 0 && (1 : Int) == 1 && (hi.elim items.size (clipAt items.size) - lo.elim 0 (clipAt items.size)) == items.size) = true) then _ else _) _ _ s
  split
  · rename_i hw
    have hw' : sliceL items.toList lo hi = items.toList := by
      simp only [Bool.and_eq_true, beq_iff_eq] at hw
      obtain ⟨⟨h3, _⟩, h4⟩ := hw
      have e0 : lo.elim 0 (clipAt items.size) = 0 := by omega
      have : ∀ a b, a = 0 → b - a = items.size → (items.toList.drop a).take (b - a) = items.toList := by
        intro a b ha hb
        rw [hb]; subst ha; simp [List.take_of_length_le]
      unfold sliceL
      have q := this (lo.elim 0 (clipAt items.size)) (hi.elim items.size (clipAt items.size)) e0 h4
      cases lo <;> cases hi <;> simpa [clip_clipAt] using q
    have h1' := h1 hw'
    have ex : ∀ Q' : Bool → Shared → Prop, Q' true s → wpAny (model prog w) A.in1 (Builtin.Tuple.tupleIsExact (.ref t)) Q' E s := by
      intro Q' hq
      unfold Builtin.Tuple.tupleIsExact
      exact wpAny_bind (wpAny_typeOf ht'.typeIs (wpAny_pure hq))
    first
      | exact wpAny_bind (ex _ (wpAny_bind (wpAny_rule (wpAny_pure ⟨_, rfl, wpAny_pure h1'⟩))))
      | exact wpAny_bind (ex _ (wpAny_bind (wpAny_rule (wpAny_bind (wpAny_pure (wpAny_pure ⟨_, rfl, wpAny_pure h1'⟩))))))
  · rw [pick]
    first
      | exact wpAny_bind (m := Builtin.Tuple.tupleExact _) (wpAny_newObj_type (wpAny_pure ⟨_, rfl, wpAny_pure h2⟩) hdrop)
      | exact wpAny_bind (m := Builtin.Tuple.tupleExact _) (wpAny_newObj_type (wpAny_bind (wpAny_pure (wpAny_pure ⟨_, rfl, wpAny_pure h2⟩))) hdrop)
      | exact wpAny_bind (wpAny_bind (m := Builtin.Tuple.tupleExact _) (wpAny_newObj_type (wpAny_pure (wpAny_pure ⟨_, rfl, wpAny_pure h2⟩)) hdrop))
      | exact wpAny_bind (wpAny_bind (m := Builtin.Tuple.tupleExact _) (wpAny_newObj_type (wpAny_pure ⟨_, rfl, wpAny_pure h2⟩) hdrop))
end
end Mine

set_option autoImplicit false
set_option linter.unusedVariables false
namespace Mine
open PySem PySem.Calls

section
variable {Z : Cx} {O : Addr → Prop} {A : Around} {β : List Addr} {σ : Store} {s : Shared} {h : Heap}

/-! ### a slice behind its parts -/
noncomputable def EOR (v : Value) (x : Option V) (β : List Addr) (σ : Store) (h : Heap) : Prop := match x with
  | none => v = .none
  | some x => VRel β σ h v x
theorem part_of {v : Value} {x : Option V} {p : Option Int} (r : EOR v x β σ h) (hp : optInt x = some p) : IsPart v p := by
  unfold optInt at hp
  split at hp
  · cases hp; cases r; exact .none
  · cases hp; cases r; exact .int _ _
  · cases hp

theorem fresh_ge {a : Addr} (ha : h.objs.size ≤ a) : h.get? a = none := by
  cases q : h.get? a with
  | none => rfl
  | some o => exact absurd (Heap.lt_size q) (Nat.not_lt.mpr ha)
theorem sliceL_whole {α : Type} {l : List α} {lo hi : Option Int} (hl : (sliceL l lo hi).length = l.length) : sliceL l lo hi = l := by
  unfold sliceL at *
  simp only [List.length_take, List.length_drop] at hl
  generalize (lo.map (clip l.length)).getD 0 = a at *
  generalize (hi.map (clip l.length)).getD l.length = b at *
  rcases Nat.eq_zero_or_pos l.length with h0 | h0
  · have : l = [] := List.eq_nil_of_length_eq_zero h0
    subst this; simp
  · have : a = 0 := by omega
    subst this
    rw [List.drop_zero, List.take_of_length_le (by omega)]

theorem slcV_sound {m : Bool} {x : V} {lo hi : Option V} {v vl vu : Value} {value slice : Expr} {pos : Pos} (I : Inv Z β σ s.heap) (rx : VRel β σ s.heap v x) (rl : EOR vl lo β σ s.heap) (ru : EOR vu hi β σ s.heap) :
    Ev Z O A (newFields "slice" [vl, vu, .none] >>= fun i => (do standAt pos; let r ← subscripted slice (← getitemInPython v) v i; letTemporaryGo value v r; pure r)) (slcV m x lo hi σ) VR β σ s := by
  unfold slcV
  split
  · rename_i l h hl hh
    have pl := part_of rl hl
    have pu := part_of ru hh
    have hk : ∀ b o, s.heap.get? b = some o → (s.heap.push { cls := .type "slice", data := .fields #[vl, vu, .none] }).get? b = some o := fun b o e => Heap.get?_push_of_some _ e
    have sl : (s.heap.push { cls := .type "slice", data := .fields #[vl, vu, .none] }).IsSliceOf s.heap.objs.size vl vu .none := Heap.IsSliceOf.new ..
    split
    · rename_i x
      cases rx with
      | tuple e t z r =>
        have hz := r.length
        simp at hz
        refine Ev.grown I (wpAny_bind (wpAny_newObj_type (subscript_tail ⟨"tuple", _, ⟨_, hk _ _ e, rfl⟩, F.slot_tuple_getitem.lookup, getItem_tuple_slice (hk _ _ e) sl pl pu (by rw [hz]; exact Nat.le_trans z LIM_size) (fun q => ?_) ?_⟩)))
        · refine ⟨hk, rfl, rfl, ?_⟩
          have hx : sliceL x l h = x := sliceL_whole (by rw [← (r.slice l h).length, q, r.length])
          rw [hx]
          exact .tuple (hk _ _ e) t z (r.mono fun x o _ _ e _ t => ⟨hk x o e, t⟩)
        · refine ⟨fun b o e => Heap.get?_push_of_some _ (hk b o e), rfl, rfl, ?_⟩
          refine .tuple (n := 0) (Heap.get?_push_size _ rfl) (I.notTT ?_) (Nat.le_trans (sliceL_length x l h) z) ?_
          · exact fresh_ge (by rw [Heap.size_push]; omega)
          · exact (r.slice l h).mono fun x o _ _ e _ t => ⟨Heap.get?_push_of_some _ (hk x o e), t⟩
    · rename_i x
      cases rx with
      | str _ tk g =>
        have good : strGood (strOfL (sliceL (strL x) l h)) := strGood_of (fun c hc => g.cps c (by
          unfold sliceL at hc
          exact List.mem_of_mem_drop (List.mem_of_mem_take hc))) (Nat.le_trans (sliceL_length _ _ _) g.len)
        have parts : ∃ l' h', vl = partValue l' ∧ vu = partValue h' ∧ l'.map (·.1) = l ∧ h'.map (·.1) = h := by
          refine ⟨match vl with | .int i t => some (i, t) | _ => none, match vu with | .int i t => some (i, t) | _ => none, ?_, ?_, ?_, ?_⟩
          · cases pl <;> rfl
          · cases pu <;> rfl
          · cases pl <;> rfl
          · cases pu <;> rfl
        obtain ⟨l', h', rfl, rfl, e1, e2⟩ := parts
        refine Ev.grown I (wpAny_bind (wpAny_newObj_type (subscript_tail ⟨"str", _, typeIs_str _ x tk, F.slot_str_getitem.lookup, wpAny_getItem_str_slice (l := l') (u := h') (st := none) ⟨_, Heap.get?_push_size _ rfl, rfl, rfl⟩ rfl ?_⟩)))
        have pick : (slicePicked x l' h' none).filterMap (x.cps[·]?) = sliceL (strL x) l h := by
          unfold slicePicked
          rw [e1, e2]
          exact strSlice_eq x l h
        unfold sliceMade
        split
        · rename_i hw
          refine ⟨hk, rfl, rfl, ?_⟩
          have hx : strOfL (sliceL (strL x) l h) = x := by
            have hlen : (slicePicked x l' h' none).length = x.length := by
              have := (Bool.and_eq_true_iff.mp hw).2
              simpa using this
            have e : slicePicked x l' h' none = sliceRange (((l.elim 0 (clipAt x.length) : Nat) : Int)) (((h.elim x.length (clipAt x.length) : Nat) : Int)) 1 := by
              unfold slicePicked
              rw [e1, e2]
              unfold Builtin.Str.strSliceIndices
              cases l <;> cases h <;> simp [clipAt_cast]
            have hl2 : (sliceL (strL x) l h).length = (strL x).length := by
              rw [e, sliceRange_one] at hlen
              simp only [List.length_map, List.length_range] at hlen
              have hxl : (strL x).length = x.length := by simp [strL, Str.length]
              have c1 : l.elim 0 (clipAt x.length) ≤ x.length := by
                cases l with
                | none => exact Nat.zero_le _
                | some i => have := clipAt_cast x.length i; simp only [Option.elim]; omega
              have c2 : h.elim x.length (clipAt x.length) ≤ x.length := by
                cases h with
                | none => exact Nat.le_refl _
                | some i => have := clipAt_cast x.length i; simp only [Option.elim]; omega
              unfold sliceL
              simp only [List.length_take, List.length_drop, hxl]
              cases l <;> cases h <;> simp [clip_clipAt] at hlen c1 c2 ⊢ <;> omega
            rw [sliceL_whole hl2]
            simp [strOfL, strL]
          rw [hx]
          exact .str _ _ g
        · refine ⟨?_, hk, rfl, rfl, ?_⟩
          · rw [pick]
            have := good.2
            exact Nat.le_trans this LIM_size
          · rw [pick]
            exact .str _ _ good
    · split
      · rename_i xs hxs
        obtain ⟨a, vs, n, rfl, e, r, z⟩ := listOf_inv I hxs rx
        have hz := r.length
        simp at hz
        refine ev_mkList I (Nat.le_trans (sliceL_length _ _ _) z) (wpAny_bind (wpAny_newObj_type (subscript_tail ⟨"list", _, ⟨_, hk _ _ e, rfl⟩, slot_list_getitem.lookup,
          wpAny_getItem_list_slice ⟨_, hk _ _ e, rfl, _, rfl⟩ sl pl pu .none (by simp) ?_ (by rw [hz]; exact Nat.le_trans z LIM_size)⟩)))
        refine ⟨_, _, 0, rfl, fresh_ge (by rw [Heap.size_push]; omega), Heap.get?_push_size _ rfl, fun b o e => Heap.get?_push_of_some _ (hk b o e), rfl, rfl, ?_⟩
        rw [slicePick_sliceL]
        exact r.slice l h
      · exact Ev.bad
  · exact Ev.bad

/-! ### built-in calls -/
noncomputable def tyName : Ty → String
  | .list => "list"
  | .int => "int"
  | .bool => "bool"
  | .str => "str"
  | .tuple => "tuple"

theorem isinst_sound {t : Ty} {x : V} {v : Value} {b : Bool} (I : Inv Z β σ s.heap) (r : VRel β σ s.heap v x) (hb : tyV t σ x = some b) {Q : Value → Shared → Prop} {E : Value → Shared → Prop} (q : Tok1 s Q (.bool b)) :
    wpAny (model Z.prog Z.w) A (call (.builtin "isinstance") [v, .type (tyName t)]) Q E s := by
  cases x with
  | un => cases hb
  | locs l => cases hb
  | loc n =>
    obtain ⟨a, hb', rfl⟩ := r
    cases t with
    | list =>
      obtain ⟨l, hc, hb⟩ := Option.map_eq_some_iff.mp hb
      obtain ⟨vs, m, e, r, z⟩ := I.cell n a _ hb' (lstAt_ok hc)
      cases hb
      exact IsiPair.list_list e rfl (q s.toks)
    | _ => cases hb
  | d y =>
    cases r with
    | int i tk =>
      cases t with
      | int => cases hb; exact IsiPair.int_int (q s.toks)
      | bool => cases hb; exact IsiPair.int_bool (q _)
      | _ => cases hb
    | str x tk g =>
      cases t with
      | str => cases hb; exact IsiPair.str_str (q s.toks)
      | _ => cases hb
    | list e ht z r =>
      cases t with
      | list => cases hb; exact IsiPair.list_list e rfl (q s.toks)
      | _ => cases hb
    | _ => cases hb

theorem strsOf_are {T : Addr → Prop} : ∀ {vs : List Value} {l : List PyData} {ss : List Str}, RelAll T h vs l → strsOf l = some ss → PyProof.Rows.StrsAre vs ss ∧ l = ss.map .str
  | _, _, _, .nil, e => by cases e; exact ⟨.nil, rfl⟩
  | _, _, _, .cons (d := d) r rs, e => by
    cases r with
    | str x t g =>
      simp only [strsOf, Option.map_eq_some_iff] at e
      obtain ⟨ss, e, rfl⟩ := e
      obtain ⟨a, b⟩ := strsOf_are rs e
      exact ⟨.cons x t a, by rw [b]; rfl⟩
    | _ => simp [strsOf] at e
/-! sorting -/
theorem strLt_eq (x y : Str) : PySem.Spec.ltCps x.cps.toList y.cps.toList = strLt x y := by
  rw [PyProof.Rows.ltCps_eq]; rfl
theorem strL_inj {x y : Str} (h : strL x = strL y) : x = y := by
  obtain ⟨a⟩ := x; obtain ⟨b⟩ := y
  simp [strL] at h; simp [h]
theorem insStr_perm (x : Str) : ∀ l : List Str, (insStr x l).Perm (x :: l)
  | [] => .refl _
  | y :: r => by
    unfold insStr
    split
    · exact ((insStr_perm x r).cons y).trans (.swap ..)
    · exact .refl _
theorem sortStr_perm : ∀ l : List Str, (sortStr l).Perm l
  | [] => .refl _
  | x :: r => (insStr_perm x _).trans ((sortStr_perm r).cons x)
noncomputable def leS (x y : Str) : Prop := strLt y x = false
theorem leS_trans {x y z : Str} (h1 : leS x y) (h2 : leS y z) : leS x z := by
  unfold leS strLt at *
  simp only [decide_eq_false_iff_not, List.not_lt] at *
  exact List.le_trans h1 h2
theorem insStr_sorted (x : Str) : ∀ l : List Str, l.Pairwise leS → (insStr x l).Pairwise leS
  | [], _ => by simp [insStr]
  | y :: r, hp => by
    obtain ⟨h1, h2⟩ := List.pairwise_cons.mp hp
    unfold insStr
    split
    · rename_i hlt
      refine List.pairwise_cons.mpr ⟨fun z hz => ?_, insStr_sorted x r h2⟩
      rcases List.mem_cons.mp ((insStr_perm x r).mem_iff.mp hz) with rfl | hz
      · unfold leS strLt at *
        simp only [decide_eq_true_iff, decide_eq_false_iff_not] at *
        exact List.lt_asymm hlt
      · exact h1 z hz
    · rename_i hlt
      have hxy : leS x y := by unfold leS; simpa using hlt
      refine List.pairwise_cons.mpr ⟨fun z hz => ?_, hp⟩
      rcases List.mem_cons.mp hz with rfl | hz
      · exact hxy
      · exact leS_trans hxy (h1 z hz)
theorem sortStr_sorted : ∀ l : List Str, (sortStr l).Pairwise leS
  | [] => .nil
  | x :: r => insStr_sorted x _ (sortStr_sorted r)
theorem risingS_pairwise : ∀ (p : Str) (l : List Str), PyProof.Rows.risingS p l = true → (p :: l).Pairwise leS
  | p, [], _ => by simp
  | p, x :: r, hh => by
    simp only [PyProof.Rows.risingS, Bool.and_eq_true, Bool.not_eq_true'] at hh
    have ih := risingS_pairwise x r hh.2
    have hpx : leS p x := by unfold leS; rw [← strLt_eq]; exact hh.1
    refine List.pairwise_cons.mpr ⟨fun z hz => ?_, ih⟩
    rcases List.mem_cons.mp hz with rfl | hz
    · exact hpx
    · exact leS_trans hpx ((List.pairwise_cons.mp ih).1 z hz)
theorem sorted_unique {l l' : List Str} (hp : l'.Perm l) (hs : PyProof.Rows.sortedS l' = true) : l' = sortStr l := by
  have h1 : l'.Pairwise leS := by
    cases l' with
    | nil => exact .nil
    | cons x r => exact risingS_pairwise x r hs
  refine List.Perm.eq_of_pairwise (fun a b _ _ h1 h2 => ?_) h1 (sortStr_sorted l) (hp.trans (sortStr_perm l).symm)
  unfold leS strLt at *
  simp only [decide_eq_false_iff_not, List.not_lt] at *
  exact strL_inj (List.le_antisymm h1 h2)

theorem rel_strs {T : Addr → Prop} : ∀ {vs : List Value} {ss : List Str}, PyProof.Rows.StrsAre vs ss → (∀ x ∈ ss, strGood x) → RelAll T h vs (ss.map .str)
  | _, _, .nil, _ => .nil
  | _, _, .cons x t r, hg => .cons (.str x t (hg x (List.mem_cons_self ..))) (rel_strs r fun y hy => hg y (List.mem_cons_of_mem _ hy))
theorem good_strs {T : Addr → Prop} : ∀ {vs : List Value} {ss : List Str}, RelAll T h vs (ss.map .str) → ∀ x ∈ ss, strGood x
  | _, [], _, x, hx => by cases hx
  | _, y :: ss, .cons r rs, x, hx => by
    cases r with
    | str _ _ g =>
      rcases List.mem_cons.mp hx with rfl | hx
      · exact g
      · exact good_strs rs x hx

/-- the name and the value of a built-in, the rest of its arguments -/
noncomputable def biVal : Bi → Value
  | .len => .builtin "len"
  | .list => .type "list"
  | .dict => .type "dict"
  | .int => .type "int"
  | .max => .builtin "max"
  | .tuple => .type "tuple"
  | .sorted => .builtin "sorted"
  | .sortedSet => .none
  | .any => .builtin "any"
  | .all => .builtin "all"
  | .isinst _ => .builtin "isinstance"
noncomputable def biRest : Bi → List Value
  | .isinst t => [.type (tyName t)]
  | _ => []

theorem strsAre_of : ∀ {vs : List Value} {ss : List Str}, vs.length = ss.length → (∀ (j : Nat) (v : Value), vs[j]? = some v → ∃ k t, ss[j]? = some k ∧ v = .str k t) → PyProof.Rows.StrsAre vs ss
  | [], [], _, _ => .nil
  | [], _ :: _, hl, _ => by simp at hl
  | _ :: _, [], hl, _ => by simp at hl
  | v :: vs, k :: ss, hl, hv => by
    obtain ⟨k', t, h1, rfl⟩ := hv 0 v rfl
    simp at h1; subst h1
    exact .cons k t (strsAre_of (by simpa using hl) fun j v hj => hv (j + 1) v hj)
theorem strs_at {vs : Array Value} {kvs : List (Str × Value)} (hl : vs.size = kvs.length) (hv : ∀ (j : Nat) (v : Value), vs[j]? = some v → ∃ k t, (kvs.map (·.1))[j]? = some k ∧ v = .str k t) : PyProof.Rows.StrsAre vs.toList (kvs.map (·.1)) :=
  strsAre_of (by simpa using hl) fun j v hj => hv j v (by simpa using hj)

theorem call_list_dict {a : Addr} {kvs : List (Str × Value)} {E : Value → Shared → Prop} {Q : Value → Shared → Prop} (hh : A.handled = none) (ne : (a == sysModules) = false) (D : s.heap.DictOf (strKind Z.prog Z.w) a kvs) (hz : kvs.length ≤ sizeLine)
    (q : ∀ h' tk (vs : Array Value) n, (∀ b o, s.heap.get? b = some o → h'.get? b = some o) → h'.get? s.heap.objs.size = some (listO vs n) → PyProof.Rows.StrsAre vs.toList (kvs.map (·.1)) → Q (.ref s.heap.objs.size) { s with heap := h', toks := tk }) :
    wpAny (model Z.prog Z.w) A (call (.type "list") [.ref a]) Q E s := by
  obtain ⟨ep, D'⟩ := D.dictAt
  refine PySem.W.kdl_call (PySem.W.kdl_dict (knd := strKind Z.prog Z.w) (kvs := kvs) (ep := ep) ne) hh D' hz fun h' tk acc c hk e hi => q h' tk acc c hk e ?_
  refine strs_at hi.1 fun j v hj => ?_
  obtain ⟨k, x, h1, h2⟩ := hi.2 j v hj
  obtain ⟨t, rfl⟩ := Value.isStrOf_shape h2
  exact ⟨k, t, by rw [List.getElem?_map, h1]; rfl, rfl⟩

theorem one_rel {vs : List Value} {xs : List V} {x : V} (rx : VRels β σ h vs xs) (e : one xs = some x) : ∃ v, vs = [v] ∧ VRel β σ h v x := by
  have e := one_ok e
  subst e
  cases rx with
  | cons r rs => cases rs; exact ⟨_, rfl, r⟩
theorem two_rel {vs : List Value} {xs : List V} {x y : V} (rx : VRels β σ h vs xs) (e : two xs = some (x, y)) : ∃ v u, vs = [v, u] ∧ VRel β σ h v x ∧ VRel β σ h u y := by
  have e := two_ok e
  subst e
  cases rx with
  | cons r rs => cases rs with
    | cons r' rs => cases rs; exact ⟨_, _, rfl, r, r'⟩
theorem one_sound {f : Value} {rest vs : List Value} {xs : List V} {g : V → Res V} (rx : VRels β σ s.heap vs xs) (h1 : ∀ v x, VRel β σ s.heap v x → Ev Z O A (call f (v :: rest)) (g x) VR β σ s) : Ev Z O A (call f (vs ++ rest)) (oc (one xs) g .bad) VR β σ s :=
  oc_sound (fun a e => by
    obtain ⟨v, rfl, r⟩ := one_rel rx e
    exact h1 v a r) Ev.bad
theorem len_sound {x : V} {v : Value} (I : Inv Z β σ s.heap) (r : VRel β σ s.heap v x) : Ev Z O A (call (.builtin "len") [v]) (oc (tupV x) (fun l => .ok (.d (.int l.length)) σ) (oc (strV x) (fun x => .ok (.d (.int (strL x).length)) σ) (oc (listOf σ x) (fun l => .ok (.d (.int l.length)) σ) .bad))) VR β σ s := by
  refine oc_sound (fun l e => ?_) (oc_sound (fun x' e => ?_) (oc_sound (fun l hl => ?_) Ev.bad))
  · have e := tupV_ok e; subst e
    obtain ⟨a, vs, n, rfl, e, t, z, r⟩ := vtup r
    have hz := r.length
    simp only [Array.length_toList] at hz
    rw [← hz]
    exact ev_flat I (P.len_tuple e (by have := sizeLim z; rw [hz]; omega) ⟨⟨_, _, rfl⟩, .int _ _⟩)
  · have e := strV_ok e; subst e
    obtain ⟨t, rfl, g⟩ := vstr r
    have hlen : (strL x').length = x'.length := by simp [strL, Str.length]
    rw [hlen]
    exact ev_flat I (P.len_str (by have := sizeLim g.len; rw [hlen] at this; omega) ⟨⟨_, _, rfl⟩, .int _ _⟩)
  · obtain ⟨a, ws, n, rfl, e, q, z⟩ := listOf_inv I hl r
    have hz := q.length
    simp only [Array.length_toList] at hz
    rw [← hz]
    exact ev_flat I (call_len_list ⟨_, e, rfl, _, rfl⟩ (by rw [hz]; exact sizeLim z) ⟨⟨_, _, rfl⟩, .int _ _⟩)
theorem list_sound {x : V} {v : Value} {m : Bool} (Y : Sys Z) (I : Inv Z β σ s.heap) (hh : A.handled = none) (r : VRel β σ s.heap v x) : Ev Z O A (call (.type "list") [v]) (oc (tupV x) (fun l => mkList m l σ) (oc (listOf σ x) (fun l => mkList m l σ) (oc (dctOf σ x) (fun kvs => mkList m (kvs.map fun x => .str x.1) σ) .bad))) VR β σ s := by
  refine oc_sound (fun l e => ?_) (oc_sound (fun l hl => ?_) (oc_sound (fun kvs' hd => ?_) Ev.bad))
  · have e := tupV_ok e; subst e
    obtain ⟨a, vs, n, rfl, e, t, z, r⟩ := vtup r
    have hz := r.length
    simp only [Array.length_toList] at hz
    exact ev_mkList I z (call_list_seq _ (.inr rfl) e rfl rfl (fun h' c hk e' => ⟨_, _, _, rfl, fresh_size _, e', hk, rfl, rfl, r⟩) (by rw [hz]; exact Nat.le_trans z LIM_size))
  · obtain ⟨a, ws, n, rfl, e, q, z⟩ := listOf_inv I hl r
    have hz := q.length
    simp only [Array.length_toList] at hz
    exact ev_mkList I z (call_list_seq _ (.inl rfl) e rfl rfl (fun h' c hk e' => ⟨_, _, _, rfl, fresh_size _, e', hk, rfl, rfl, q⟩) (by rw [hz]; exact Nat.le_trans z LIM_size))
  · obtain ⟨n, a, rfl, hb, hc, rfl, kvs, D, hk, q, hg, z⟩ := dctOf_inv I hd r
    have hz : kvs.length = kvs'.length := by have := congrArg List.length hk; simpa using this
    refine ev_mkList I (by rw [List.length_map]; exact z) (call_list_dict hh (Y.ne I (List.mem_of_getElem? hb)) D (by rw [hz]; exact Nat.le_trans z LIM_size) fun h' tk vs n hk' e S => ⟨_, _, _, rfl, fresh_size _, e, hk', rfl, rfl, ?_⟩)
    rw [hk] at S
    have := rel_strs (T := TT β σ) (h := s.heap) S hg
    rw [List.map_map] at this
    exact this
theorem tuple_sound {x : V} {v : Value} (I : Inv Z β σ s.heap) (r : VRel β σ s.heap v x) : Ev Z O A (call (.type "tuple") [v]) (oc (listOf σ x) (fun l => .ok (.d (.tuple l)) σ) .bad) VR β σ s := by
  refine oc_sound (fun l hl => ?_) Ev.bad
  obtain ⟨a, ws, n, rfl, e, q, z⟩ := listOf_inv I hl r
  have hz := q.length
  simp only [Array.length_toList] at hz
  refine ev_mkTup I z (call_tuple_list ⟨_, e, rfl, _, rfl⟩ (fun h' hk => ⟨_, _, _, rfl, ?_, Heap.get?_push_size _ rfl, fun b o e => Heap.get?_push_of_some _ (hk b o e), rfl, rfl, q⟩) (by rw [hz]; exact Nat.le_trans z LIM_size))
  cases w : s.heap.get? h'.objs.size with
  | none => rfl
  | some o => exact absurd (Heap.lt_size (hk _ _ w)) (Nat.lt_irrefl _)
theorem sorted_sound {x : V} {v : Value} {m : Bool} (I : Inv Z β σ s.heap) (r : VRel β σ s.heap v x) : Ev Z O A (call (.builtin "sorted") [v]) (oc ((listOf σ x).bind strsOf) (fun l => if l.length < 64 then mkList m ((sortStr l).map .str) σ else .bad) .bad) VR β σ s := by
  refine oc_sound (fun ss hl => if_sound fun h64 => ?_) Ev.bad
  obtain ⟨l, hl, hs⟩ := Option.bind_eq_some_iff.mp hl
  obtain ⟨a, ws, n, rfl, e, q, z⟩ := listOf_inv I hl r
  obtain ⟨S, rfl⟩ := strsOf_are q hs
  have hlen : ws.toList.length = ss.length := by have := q.length; rw [List.length_map] at this; exact this
  refine ev_mkList I (by have := (sortStr_perm ss).length_eq; simp [this, LIM]; omega) (PyProof.Rows.sorted_strs (vs := ws.toList) ⟨_, e, rfl, _, rfl⟩ S (by omega) fun out ss' S' hp hs' => ?_)
  have := sorted_unique hp hs'
  subst this
  obtain ⟨e', he'⟩ := PyProof.Rows.sortedAll_at s.heap ws.toList out
  exact ⟨_, out, e', rfl, fresh_ge (by omega), he', fun b o e => PyProof.Rows.sortedAll_old e, rfl, rfl, rel_strs S' fun x hx => good_strs q x ((sortStr_perm ss).mem_iff.mp hx)⟩
theorem biV_sound {b : Bi} {m : Bool} {xs : List V} {vs : List Value} (Y : Sys Z) (I : Inv Z β σ s.heap) (hh : A.handled = none) (hu : A.units + 200 < cLine) (rx : VRels β σ s.heap vs xs) :
    Ev Z O A (call (biVal b) (vs ++ biRest b)) (biV b m xs σ) VR β σ s := by
  cases b with
  | len => exact one_sound rx fun v x r => len_sound I r
  | list => exact one_sound rx fun v x r => list_sound Y I hh r
  | dict => exact Ev.bad
  | int =>
    refine one_sound rx fun v x r => oc_sound (fun b e => ?_) Ev.bad
    have e := boolV_ok e; subst e
    have e := vbool r; subst e
    exact ev_flat I (call_int_bool ⟨⟨_, _, rfl⟩, .int _ _⟩)
  | max => exact Ev.bad
  | tuple => exact one_sound rx fun v x r => tuple_sound I r
  | sorted => exact one_sound rx fun v x r => sorted_sound I r
  | any => exact Ev.bad
  | isinst t => exact one_sound rx fun v x r => oc_sound (fun b hb => ev_bool I (isinst_sound I r hb fun tk => ⟨⟨_, _, rfl⟩, rfl⟩)) Ev.bad
  | sortedSet => exact Ev.bad
  | all => exact Ev.bad
end
end Mine

set_option autoImplicit false
set_option linter.unusedVariables false
namespace Mine
open PySem PySem.Calls

noncomputable def meId : Me → String
  | .get => "dict.get"
  | .append => "list.append"
  | .extend => "list.extend"
  | .update => "dict.update"
  | .pop => "list.pop"
  | .count => "list.count"
  | .index => "list.index"
noncomputable def meName : Me → Str
  | .get => "get"
  | .append => "append"
  | .extend => "extend"
  | .update => "update"
  | .pop => "pop"
  | .count => "count"
  | .index => "index"
noncomputable def Me.done : Me → Bool
  | .get | .append | .extend | .update => true
  | _ => false

section
variable {Z : Cx} {O : Addr → Prop} {A : Around} {β : List Addr} {σ : Store} {s : Shared} {h : Heap}

theorem meOk_sound {b : Me} {o : V} {v : Value} {pl : Sem Bool} {Q : Value × List Value → Shared → Prop} {E : Value → Shared → Prop} (hd : b.done = true) (I : Inv Z β σ s.heap) (ro : VRel β σ s.heap v o) (hm : meOk b σ o = true)
    (q : Q (.builtin (meId b), [v]) s) : wpAny (model Z.prog Z.w) A (getMethod v (meName b) pl) Q E s := by
  have dc : (dctOf σ o).isSome = true → ∃ a ob, v = .ref a ∧ s.heap.get? a = some ob ∧ ob.cls = .type "dict" ∧ ob.dict = none := fun hm => by
    obtain ⟨l, hl⟩ := Option.isSome_iff_exists.mp hm
    obtain ⟨n, a, rfl, hb, hc, rfl, kvs, ⟨ob, es, ep, e, hx, _⟩, _⟩ := dctOf_inv I hl ro
    exact ⟨a, ob, rfl, e, hx.1, hx.2.1⟩
  have lc : (listOf σ o).isSome = true → ∃ a ob, v = .ref a ∧ s.heap.get? a = some ob ∧ ob.cls = .type "list" ∧ ob.dict = none := fun hm => by
    obtain ⟨l, hl⟩ := Option.isSome_iff_exists.mp hm
    obtain ⟨a, ws, n, rfl, e, _⟩ := listOf_inv I hl ro
    exact ⟨a, _, rfl, e, rfl, rfl⟩
  cases b <;> try cases hd
  · obtain ⟨a, ob, rfl, e, h1, h2⟩ := dc hm
    exact getMethod_builtin ⟨ob, e, h1⟩ F.plainAttrs_dict F.slot_dict_get F.type_dict_get (fun a' h => by cases h; exact ⟨ob, e, h2⟩) q
  · obtain ⟨a, ob, rfl, e, h1, h2⟩ := lc hm
    exact getMethod_builtin ⟨ob, e, h1⟩ F.plainAttrs_list F.slot_list_append F.type_list_append (fun a' h => by cases h; exact ⟨ob, e, h2⟩) q
  · obtain ⟨a, ob, rfl, e, h1, h2⟩ := lc hm
    exact getMethod_builtin ⟨ob, e, h1⟩ F.plainAttrs_list F.slot_list_extend F.type_list_extend (fun a' h => by cases h; exact ⟨ob, e, h2⟩) q
  · obtain ⟨a, ob, rfl, e, h1, h2⟩ := dc hm
    exact getMethod_builtin ⟨ob, e, h1⟩ F.plainAttrs_dict F.slot_dict_update F.type_dict_update (fun a' h => by cases h; exact ⟨ob, e, h2⟩) q

theorem mapped_rel {T : Addr → Prop} {k : Str} {v : Value} {d : PyData} (rv : Rel T h v d) : ∀ {kvs : List (Str × Value)} {l : List (Str × PyData)}, kvs.map (·.1) = l.map (·.1) → RelAll T h (kvs.map (·.2)) (l.map (·.2)) →
    (kvs.map fun x => if x.1 = k then (x.1, v) else x).map (·.1) = (l.map fun x => if x.1 = k then (x.1, d) else x).map (·.1) ∧ RelAll T h ((kvs.map fun x => if x.1 = k then (x.1, v) else x).map (·.2)) ((l.map fun x => if x.1 = k then (x.1, d) else x).map (·.2))
  | [], [], _, _ => ⟨rfl, .nil⟩
  | [], _ :: _, hk, _ => by simp at hk
  | _ :: _, [], hk, _ => by simp at hk
  | a :: kvs, b :: l, hk, .cons r rs => by
    simp only [List.map_cons, List.cons.injEq] at hk
    have ih := mapped_rel (k := k) rv hk.2 rs
    simp only [List.map_cons]
    rw [hk.1]
    split
    · exact ⟨by simp only [hk.1, ih.1], .cons rv ih.2⟩
    · exact ⟨by simp only [hk.1, ih.1], .cons r ih.2⟩
theorem stored_rel {T : Addr → Prop} {kvs : List (Str × Value)} {l : List (Str × PyData)} {k : Str} {v : Value} {d : PyData} (hk : kvs.map (·.1) = l.map (·.1)) (r : RelAll T h (kvs.map (·.2)) (l.map (·.2))) (rv : Rel T h v d) :
    (stored kvs k v).map (·.1) = (put1 k d l).map (·.1) ∧ RelAll T h ((stored kvs k v).map (·.2)) ((put1 k d l).map (·.2)) := by
  have ha : kvs.any (fun kv => decide (kv.1 = k)) = l.any (fun x => decide (x.1 = k)) := by
    have : ∀ {α : Type} (l : List (Str × α)), l.any (fun kv => decide (kv.1 = k)) = (l.map (·.1)).any (fun x => decide (x = k)) := fun l => by rw [List.any_map]; rfl
    rw [this, this, hk]
  unfold stored put1
  rw [ha]
  split
  · exact mapped_rel rv hk r
  · refine ⟨by simp [hk], ?_⟩
    simp only [List.map_append, List.map_cons, List.map_nil]
    exact r.append (.one rv)
theorem merged_rel {T : Addr → Prop} : ∀ {more : List (Str × Value)} {m : List (Str × PyData)} {kvs : List (Str × Value)} {l : List (Str × PyData)}, more.map (·.1) = m.map (·.1) → RelAll T h (more.map (·.2)) (m.map (·.2)) → kvs.map (·.1) = l.map (·.1) → RelAll T h (kvs.map (·.2)) (l.map (·.2)) →
    (merged kvs more).map (·.1) = (putAll l m).map (·.1) ∧ RelAll T h ((merged kvs more).map (·.2)) ((putAll l m).map (·.2))
  | [], [], _, _, _, _, hk, r => ⟨hk, r⟩
  | [], _ :: _, _, _, hk, _, _, _ => by simp at hk
  | _ :: _, [], _, _, hk, _, _, _ => by simp at hk
  | a :: more, b :: m, kvs, l, hm, .cons r' rs, hk, r => by
    simp only [List.map_cons, List.cons.injEq] at hm
    have h1 := stored_rel (k := a.1) hk r r'
    have := merged_rel hm.2 rs h1.1 h1.2
    unfold merged putAll at *
    simp only [List.foldl_cons]
    rw [← hm.1]
    exact this
theorem put1_keys {k : Str} {d : PyData} {l : List (Str × PyData)} {x : Str} (hx : x ∈ (put1 k d l).map (·.1)) : x = k ∨ x ∈ l.map (·.1) := by
  unfold put1 at hx
  split at hx
  · have : ((l.map fun x => if x.1 = k then (x.1, d) else x).map (·.1)) = l.map (·.1) := by
      rw [List.map_map]; refine List.map_congr_left fun y _ => ?_
      simp only [Function.comp]; split <;> rfl
    rw [this] at hx; exact .inr hx
  · simp only [List.map_append, List.mem_append, List.map_cons, List.map_nil, List.mem_singleton] at hx
    exact hx.symm
theorem put1_length (k : Str) (d : PyData) (l : List (Str × PyData)) : (put1 k d l).length ≤ l.length + 1 := by
  unfold put1; split <;> simp
theorem putAll_keys : ∀ {m l : List (Str × PyData)} {x : Str}, x ∈ (putAll l m).map (·.1) → x ∈ m.map (·.1) ∨ x ∈ l.map (·.1)
  | [], l, x, hx => .inr hx
  | b :: m, l, x, hx => by
    rcases putAll_keys (m := m) (l := put1 b.1 b.2 l) hx with h1 | h1
    · exact .inl (List.mem_cons_of_mem _ h1)
    · rcases put1_keys h1 with rfl | h2
      · exact .inl (List.mem_cons_self ..)
      · exact .inr h2
theorem putAll_length : ∀ (m l : List (Str × PyData)), (putAll l m).length ≤ l.length + m.length
  | [], l => Nat.le_refl _
  | b :: m, l => by
    have h1 := putAll_length m (put1 b.1 b.2 l)
    have h2 := put1_length b.1 b.2 l
    have : putAll l (b :: m) = putAll (put1 b.1 b.2 l) m := rfl
    rw [this]; simp only [List.length_cons]; omega

theorem isStr_self (k : Str) (t : Tok) : (strKind Z.prog Z.w).is k (.str k t) = true := by
  show Value.isStrOf k (.str k t) = true
  simp [Value.isStrOf]
theorem mapSeq_listO {f : Array Value → Array Value} {vs : Array Value} {n : Nat} : ∃ m, Obj.mapSeq f (listO vs n) = listO (f vs) m := ⟨_, rfl⟩

theorem update_list {a : Addr} {vs : Array Value} {n : Nat} {f : Array Value → Array Value} (e : h.get? a = some (listO vs n)) :
    (∃ m, (h.update a (Obj.mapSeq f)).get? a = some (listO (f vs) m)) ∧ ∀ x o, x ≠ a → h.get? x = some o → (h.update a (Obj.mapSeq f)).get? x = some o :=
  ⟨⟨_, IsL.update e f⟩, fun x o hx e' => (Heap.get?_update_other h _ (Ne.symm hx)).trans e'⟩

theorem ne_sys (Y : Sys Z) (I : Inv Z β σ h) {n : Nat} {a : Addr} (hb : β[n]? = some a) : (a == sysModules) = false := Y.ne I (List.mem_of_getElem? hb)

theorem vloc {v : Value} {n : Nat} (r : VRel β σ h v (.loc n)) : ∃ a, β[n]? = some a ∧ v = .ref a := r
theorem meV_sound {b : Me} {o : V} {xs : List V} {v : Value} {vs : List Value} (Y : Sys Z) (I : Inv Z β σ s.heap) (ro : VRel β σ s.heap v o) (rx : VRels β σ s.heap vs xs) :
    Ev Z O A (call (.builtin (meId b)) (v :: vs)) (meV b o xs σ) VR β σ s := by
  cases b with
  | get => exact Ev.bad
  | append =>
    refine oc_sound (fun p e => b2_sound (fun n x hn hd => oc_sound (fun l hc => if_sound fun hl => ?_) Ev.bad) Ev.bad) Ev.bad
    obtain ⟨u, rfl, r⟩ := one_rel rx e
    rw [pureD_ok hd] at r
    rw [locV_ok hn] at ro
    have hc := lstAt_ok hc
    obtain ⟨a, hb, rfl⟩ := vloc ro
    obtain ⟨ws, m, e, q, z⟩ := I.cell n a _ hb hc
    have hz := q.length
    simp only [Array.length_toList] at hz
    refine Ev.done (call_meets F.slot_list_append ⟨_, e, rfl⟩ F.entry_list_append (F.args_list_append_2 _ _) (list_append a ws m _ (by rw [hz]; exact Nat.le_trans z LIM_size)) ⟨e, ?_⟩)
    obtain ⟨⟨m', e'⟩, hk⟩ := update_list (f := fun x_1 => x_1.push _) e
    have N := setBox (O := O) (s₁ := { s with heap := s.heap.update a (Obj.mapSeq fun x_1 => x_1.push _), toks := s.toks }) (c := .lst (l ++ [x])) I hb hc rfl rfl hk rfl rfl ⟨_, _, e', by simpa using q.append (.one r), by rw [List.length_append]; exact hl⟩
    exact ⟨β, N.1, N.2, .none⟩
  | extend => exact Ev.bad
  | update =>
    refine oc_sound (fun p e => b2_sound (fun n k hn hk => if_sound fun hne => b2_sound (fun x y hx hy => if_sound fun hl => ?_) Ev.bad) Ev.bad) Ev.bad
    obtain ⟨u, rfl, r⟩ := one_rel rx e
    rw [locV_ok hn] at ro
    rw [locV_ok hk] at r
    have hx := dctAt_ok hx
    have hy := dctAt_ok hy
    obtain ⟨a, hb, rfl⟩ := vloc ro
    obtain ⟨kvs, D, hk, q, hg, z⟩ := I.cell n a _ hb hx
    obtain ⟨a', hb', rfl⟩ := vloc r
    obtain ⟨kvs', D', hk', q', hg', z'⟩ := I.cell k a' _ hb' hy
    have hz : kvs.length = x.length := by have := congrArg List.length hk; simpa using this
    have hz' : kvs'.length = y.length := by have := congrArg List.length hk'; simpa using this
    have haa : a ≠ a' := I.addr_ne hb' hb (Ne.symm hne)
    refine Ev.done (call_meetsIn F.slot_dict_update D.typeIs F.entry_dict_update (F.args_dict_update_2 _ _) (meets_dict_update (strKind Z.prog Z.w) a a' haa (ne_sys Y I hb')) ⟨kvs, kvs', D, D', by rw [hz, hz']; exact Nat.le_trans hl LIM_size, fun h' D₁ _ hs' => ?_⟩)
    have M := merged_rel hk' q' hk q
    have N := setBox (O := O) (s₁ := { s with heap := h' }) (c := .dct (putAll x y)) I hb hx rfl rfl (fun b o hb e => (hs'.2 b hb).trans e) rfl rfl ⟨_, D₁, M.1, M.2, fun x hx => (putAll_keys hx).elim (hg' x) (hg x), Nat.le_trans (putAll_length _ _) hl⟩
    exact ⟨β, N.1, N.2, .none⟩
  | pop => exact Ev.bad
  | count => exact Ev.bad
  | index => exact Ev.bad

/-! ### dicts: display, store -/
theorem dict0_sound {env : Env} {pos : Pos} (I : Inv Z β σ s.heap) : Ev Z O A (eval (.Dict [] [] pos) env) (.ok (.loc σ.length) (σ ++ [.dct []])) VR β σ s := by
  refine Ev.done (wpAny_Dict_empty ?_)
  have N := newBox (O := O) (s₁ := { s with heap := s.heap.push { cls := .type "dict", data := .dict #[] } }) (a := s.heap.objs.size) (c := .dct []) I (fun b o e => Heap.get?_push_of_some _ e) (fresh_size _) rfl rfl
    ⟨[], Heap.DictOf.new _, rfl, .nil, by simp, by simp⟩
  exact ⟨_, N.1, N.2, _, by rw [← I.len]; simp, rfl⟩
theorem put_sound {n : Nat} {a : Addr} {k : Str} {t : Tok} {v : Value} {x : PyData} {l : List (Str × PyData)} {Q : Unit → Shared → Prop} {E : Value → Shared → Prop} (I : Inv Z β σ s.heap) (hb : β[n]? = some a) (hc : σ[n]? = some (.dct l)) (g : strGood k) (r : Rel (TT β σ) s.heap v x) (hl : l.length < LIM)
    (q : ∀ s', Step O β σ s β (σ.set n (.dct (put1 k x l))) s' → Inv Z β (σ.set n (.dct (put1 k x l))) s'.heap → Q () s') : wpAny (model Z.prog Z.w) A (setItem (.ref a) (.str k t) v) Q E s := by
  obtain ⟨kvs, D, hk, q', hg, z⟩ := I.cell n a _ hb hc
  have hz : kvs.length = l.length := by have := congrArg List.length hk; simpa using this
  refine wpAny_setItem_pairs (knd := strKind Z.prog Z.w) (k := k) (isStr_self k t) D (fun h' D' hs' => ?_) (by rw [hz]; exact Nat.le_trans z LIM_size)
  have M := stored_rel (k := k) hk q' r
  have N := setBox (O := O) (s₁ := { s with heap := h', toks := s.toks + 1 }) (c := .dct (put1 k x l)) I hb hc rfl rfl (fun b o hb e => (hs'.2 b hb).trans e) rfl rfl ⟨_, D', M.1, M.2, fun y hy => (put1_keys hy).elim (fun e => e ▸ g) (hg y), Nat.le_trans (put1_length _ _ _) hl⟩
  exact q _ N.1 N.2
end
end Mine

set_option autoImplicit false
set_option linter.unusedVariables false
namespace Mine
open PySem PySem.Calls

section
variable {Z : Cx} {O : Addr → Prop} {A : Around} {β β₁ β₂ : List Addr} {σ σ₁ σ₂ : Store} {s s₁ s₂ : Shared} {h h' : Heap} {env : Env} {ks : List (Str × NameKind)} {sc : List (Str × Nat)} {ρ : Fm}

theorem Inv.notMem {a : Addr} (I : Inv Z β σ h) (e : h.get? a = none) : a ∉ β := fun m => by obtain ⟨o, q⟩ := I.ex m; rw [e] at q; cases q
theorem Step.tail {a : Addr} (S : Step O β σ s β₁ σ₁ s₁) (hf : s.heap.get? a = none) (hk : ∀ b o, b ≠ a → s₁.heap.get? b = some o → s₂.heap.get? b = some o) (hg : s₂.gens = s₁.gens) (ho : s₂.os = s₁.os) : Step O β σ s β₁ σ₁ s₂ :=
  ⟨S.ext, S.mono, fun x o hx hw hO => hk x o (fun q => by rw [q, hf] at hx; cases hx) (S.keep x o hx hw hO), (fun x hx => by
    by_cases q : x = a
    · rw [q]; exact hf
    · cases e : s₁.heap.get? x with
      | none => exact S.alive x e
      | some o => rw [hk x o q e] at hx; cases hx), hg.trans S.gens, ho.trans S.os⟩

theorem Inv.touch {a : Addr} (I : Inv Z β σ h) (ha : a ∉ β) (h0 : Z.h₀.get? a = none) (hn : ¬ seqAt h a) (hk : ∀ b o, b ≠ a → h.get? b = some o → h'.get? b = some o) : Inv Z β σ h' :=
  ⟨I.len, I.nodup, fun b o e => hk b o (fun q => by rw [q, h0] at e; cases e) (I.base b o e), I.fresh, fun k b c h1 h2 =>
    (I.cell k b c h1 h2).mono (fun o e => hk b o (fun q => ha (q ▸ List.mem_of_getElem? h1)) e) fun x o vs n e d t => ⟨hk x o (fun q => hn (q ▸ ⟨o, vs, n, e, d⟩)) e, t⟩⟩

theorem FrameOk.touch {a : Addr} (F : FrameOk Z env ks sc ρ β σ h) (ha : ¬ own env a) (hn : ¬ seqAt h a) (hk : ∀ b o, b ≠ a → h.get? b = some o → h'.get? b = some o) : FrameOk Z env ks sc ρ β σ h' := by
  have keep : ∀ b, own env b → ∀ o, h.get? b = some o → h'.get? b = some o := fun b hb o e => hk b o (fun q => ha (q ▸ hb)) e
  refine ⟨F.kind, F.globals, F.builtins, F.kinds, F.bound, F.inj, ?_, ?_, F.apart, F.cinj, F.cloc⟩
  · obtain ⟨m, ⟨o, es, ep, ho, r⟩, q⟩ := F.ns
    exact ⟨m, ⟨o, es, ep, keep _ (.inl rfl) o ho, r⟩, fun x i h1 h2 v h3 h4 => let ⟨w, g1, g2⟩ := q x i h1 h2 v h3 h4; ⟨w, g1, vrel_same hk hn g2⟩⟩
  · intro x c e
    obtain ⟨ov, ⟨o, ho, hd⟩, q⟩ := F.cell x c e
    exact ⟨ov, ⟨o, keep c (.inr ⟨x, e⟩) o ho, hd⟩, fun i h1 h2 v h3 h4 => let ⟨w, g1, g2⟩ := q i h1 h2 v h3 h4; ⟨w, g1, vrel_same hk hn g2⟩⟩

/-- what is kept of the data when addresses of boxes alone change -/
noncomputable def KeepSeq (β : List Addr) (σ : Store) (h : Heap) (β' : List Addr) (σ' : Store) (h' : Heap) : Prop :=
  ∀ x o vs n, h.get? x = some o → o.data = .seq vs n → ¬ TT β σ x → h'.get? x = some o ∧ ¬ TT β' σ' x
theorem KeepSeq.refl : KeepSeq β σ h β σ h := fun _ _ _ _ e _ t => ⟨e, t⟩
theorem KeepSeq.trans {h'' : Heap} (a : KeepSeq β σ h β₁ σ₁ h') (b : KeepSeq β₁ σ₁ h' β₂ σ₂ h'') : KeepSeq β σ h β₂ σ₂ h'' := fun x o vs n e d t =>
  let ⟨e1, t1⟩ := a x o vs n e d t; b x o vs n e1 d t1
theorem KeepSeq.vrel (a : KeepSeq β σ h β σ₁ h') {w : Value} : ∀ {v : V}, VRel β σ h w v → VRel β σ₁ h' w v
  | .un, r => r
  | .d x, r => Rel.mono a r
  | .loc n, r => r
  | .locs ns, ⟨x, vs, n, h1, h2, h3, h4, h5⟩ => ⟨x, vs, n, h1, (a _ _ _ _ h2 rfl h3).1, (a _ _ _ _ h2 rfl h3).2, h4, h5⟩

theorem FrameOk.seq (F : FrameOk Z env ks sc ρ β σ h) (a : KeepSeq β σ h β σ₁ h') (hk : ∀ b, own env b → ∀ o, h.get? b = some o → h'.get? b = some o) : FrameOk Z env ks sc ρ β σ₁ h' := by
  refine ⟨F.kind, F.globals, F.builtins, F.kinds, F.bound, F.inj, ?_, ?_, F.apart, F.cinj, F.cloc⟩
  · obtain ⟨m, ⟨o, es, ep, ho, r⟩, q⟩ := F.ns
    exact ⟨m, ⟨o, es, ep, hk _ (.inl rfl) o ho, r⟩, fun x i h1 h2 v h3 h4 => let ⟨w, g1, g2⟩ := q x i h1 h2 v h3 h4; ⟨w, g1, a.vrel g2⟩⟩
  · intro x c e
    obtain ⟨ov, ⟨o, ho, hd⟩, q⟩ := F.cell x c e
    exact ⟨ov, ⟨o, hk c (.inr ⟨x, e⟩) o ho, hd⟩, fun i h1 h2 v h3 h4 => let ⟨w, g1, g2⟩ := q i h1 h2 v h3 h4; ⟨w, g1, a.vrel g2⟩⟩

/-- a busy box's object is changed -/
theorem Inv.touchBusy {a : Addr} {n : Nat} (I : Inv Z β σ h) (hb : β[n]? = some a) (hn : σ[n]? = some .busy) (hk : ∀ b o, b ≠ a → h.get? b = some o → h'.get? b = some o) (ho : ∃ o, h'.get? a = some o) :
    Inv Z β σ h' ∧ KeepSeq β σ h β σ h' := by
  have hT : TT β σ a := ⟨n, .busy, hb, hn, rfl⟩
  have H : KeepSeq β σ h β σ h' := fun x o vs m e d t => ⟨hk x o (fun q => t (q ▸ hT)) e, t⟩
  refine ⟨⟨I.len, I.nodup, fun b o e => hk b o (fun q => ?_) (I.base b o e), I.fresh, fun k b c h1 h2 => ?_⟩, H⟩
  · have := I.fresh a (List.mem_of_getElem? hb); rw [q] at e; rw [this] at e; cases e
  · by_cases hkn : n = k
    · subst hkn
      rw [hb] at h1; cases h1
      rw [hn] at h2; cases h2
      exact ho
    · exact (I.cell k b c h1 h2).mono (fun o e => hk b o (fun q => by subst q; exact I.addr_ne hb h1 hkn rfl) e) H

theorem TT_congr {n : Nat} {c c₀ : Cell} (hn : σ[n]? = some c₀) (hg : c₀.isGone = c.isGone) {x : Addr} : TT β (σ.set n c) x ↔ TT β σ x := by
  constructor
  · rintro ⟨k, c', h1, h2, h3⟩
    by_cases hk : n = k
    · subst hk; rw [get_set_eq hn] at h2; cases h2
      exact ⟨n, c₀, h1, hn, hg.trans h3⟩
    · rw [get_set_ne hk] at h2; exact ⟨k, c', h1, h2, h3⟩
  · rintro ⟨k, c', h1, h2, h3⟩
    by_cases hk : n = k
    · subst hk; rw [hn] at h2; cases h2
      exact ⟨n, c, h1, get_set_eq hn, hg ▸ h3⟩
    · exact ⟨k, c', h1, by rw [get_set_ne hk]; exact h2, h3⟩

/-- a busy box is opened as the list that stands there -/
theorem Inv.openBusy {a : Addr} {n m : Nat} {vs : Array Value} {l : List PyData} (I : Inv Z β σ h) (hb : β[n]? = some a) (hn : σ[n]? = some .busy) (e : h.get? a = some (listO vs m)) (r : RelAll (TT β σ) h vs.toList l) (hl : l.length ≤ LIM) :
    Inv Z β (σ.set n (.lst l)) h := by
  have tt : ∀ x, TT β (σ.set n (.lst l)) x ↔ TT β σ x := fun x => TT_congr (c₀ := .busy) (c := .lst l) hn rfl
  have H : ∀ x o vs n', h.get? x = some o → o.data = .seq vs n' → ¬ TT β σ x → h.get? x = some o ∧ ¬ TT β (σ.set n (.lst l)) x := fun x o vs n' e d t => ⟨e, fun z => t ((tt x).mp z)⟩
  refine ⟨by simp [I.len], I.nodup, I.base, I.fresh, fun k b c h1 h2 => ?_⟩
  by_cases hkn : n = k
  · subst hkn
    rw [hb] at h1; cases h1
    rw [get_set_eq hn] at h2; cases h2
    exact ⟨vs, m, e, r.mono H, hl⟩
  · rw [get_set_ne hkn] at h2
    exact (I.cell k b c h1 h2).mono (fun o e => e) H

/-! ### an opened iterator -/
noncomputable def Stay (β : List Addr) (σ : Store) (h : Heap) (b : Addr) : Prop := (∃ n : Nat, β[n]? = some b ∧ σ[n]? = some .busy) ∨ (seqAt h b ∧ ¬ TT β σ b)

theorem Stay.keep {b : Addr} (S : Step O β σ s β₁ σ₁ s₁) (I : Inv Z β σ s.heap) (I₁ : Inv Z β₁ σ₁ s₁.heap) (hO : ∀ x, O x → x ∉ β ∧ ¬ seqAt s.heap x) (st : Stay β σ s.heap b) :
    (∀ o, s.heap.get? b = some o → s₁.heap.get? b = some o) ∧ Stay β₁ σ₁ s₁.heap b := by
  rcases st with ⟨n, hb, hn⟩ | ⟨⟨o, vs, n, e, d⟩, t⟩
  · have hm := List.mem_of_getElem? hb
    have hw : ¬ WW β σ b := by
      rintro ⟨k, c, h1, h2, h3⟩
      by_cases hkn : n = k
      · subst hkn; rw [hn] at h2; cases h2; cases h3
      · exact I.addr_ne hb h1 hkn rfl
    refine ⟨fun o e => S.keep b o e hw fun z => (hO b z).1 hm, .inl ⟨n, S.get hb, ?_⟩⟩
    have hlt : n < β.length := (List.getElem?_eq_some_iff.mp hb).1
    have hlt₁ : n < σ₁.length := by rw [← I₁.len]; exact (List.getElem?_eq_some_iff.mp (S.get hb)).1
    obtain ⟨c, h1, _, _, h4⟩ := S.mono n σ₁[n] hlt (List.getElem?_eq_getElem hlt₁)
    rw [hn] at h1; cases h1
    rw [List.getElem?_eq_getElem hlt₁, h4 rfl]
  · have k := S.relH (fun x z => (hO x z).2) b o vs n e d t
    exact ⟨fun o' e' => by rw [e] at e'; cases e'; exact k.1, .inr ⟨⟨o, vs, n, k.1, d⟩, k.2⟩⟩
theorem Stay.ex {b : Addr} (I : Inv Z β σ h) (st : Stay β σ h b) : ∃ o, h.get? b = some o := by
  rcases st with ⟨n, hb, hn⟩ | ⟨⟨o, vs, n, e, d⟩, t⟩
  · exact I.ex (List.mem_of_getElem? hb)
  · exact ⟨o, e⟩

structure Opened (Z : Cx) (A : Around) (Ia : Addr) (fp : List Addr) (shown : List PyData) (P : Nat → Value → Prop) (St : Nat → Heap → Prop) (β : List Addr) (σ : Store) (h : Heap) : Prop where
  walks : Walks Z.prog Z.w A Ia fp [Ia] shown.length P St
  start : St 0 h
  stay : ∀ b ∈ fp, b = Ia ∨ Stay β σ h b
  items : ∀ i v, i < shown.length → P i v → ∀ β' σ' h', KeepSeq β σ h β' σ' h' → ∃ d, shown[i]? = some d ∧ Rel (TT β' σ') h' v d
  noseq : ∀ i h', St i h' → (∃ o, h'.get? Ia = some o) ∧ ¬ seqAt h' Ia

theorem noSeq_fields {a : Addr} {o : Obj} {xs : Array Value} (e : h.get? a = some o) (d : o.data = .fields xs) : ¬ seqAt h a := fun ⟨o', vs, n, e', d'⟩ => by
  rw [e] at e'; cases e'; rw [d] at d'; cases d'

theorem LIM_pos (n : Nat) (h : n ≤ LIM) : n ≤ sizeLine := Nat.le_trans h LIM_size

/-- what stands behind the opening of an iterable -/
noncomputable def ItPost (Z : Cx) (A : Around) (I : Items) (β : List Addr) (σ : Store) (s : Shared) (σ₁ : Store) (it : Value) (s₂ : Shared) : Prop :=
  ∃ β₁ Ia fp P St, it = .ref Ia ∧ Step noO β σ s β₁ σ₁ s₂ ∧ Inv Z β₁ σ₁ s₂.heap ∧ s.heap.get? Ia = none ∧ Ia ∉ β₁ ∧ Opened Z A Ia fp I.shown P St β₁ (lockS I.lk σ₁) s₂.heap ∧
    (∀ n, I.lk = some n → σ₁[n]? = some (.lst I.base)) ∧ I.shown.length ≤ LIM

theorem open_listS {a Ia : Addr} {vs : Array Value} {n : Nat} {l : List PyData} (hh : A.handled = none) (hi : h.get? Ia = some { cls := .type "list_iterator", dict := none, data := .fields #[.ref a, .int 0 0], slots := #[] }) (e : h.get? a = some (listO vs n)) (r : RelAll (TT β σ) h vs.toList l) (hs : Stay β σ h a) :
    ∃ fp P St, Opened Z A Ia fp l P St β σ h := by
  have hne : a ≠ Ia := fun q => by rw [q, hi] at e; injection e with e; exact absurd (congrArg Obj.cls e) (by simp)
  have hz := r.length
  simp at hz
  have W := Walks.list (prog := Z.prog) (w := Z.w) hh Ia a hne vs
  rw [hz] at W
  refine ⟨_, _, _, ⟨W, ⟨⟨_, hi, rfl, rfl⟩, ⟨_, e, rfl, _, rfl⟩⟩, ?_, ?_, ?_⟩⟩
  · intro b hb
    simp at hb
    rcases hb with rfl | rfl
    · exact .inl rfl
    · exact .inr hs
  · intro i v _ hv β' σ' h' k
    obtain ⟨d, h1, h2⟩ := r.getV (k := i) (v := v) (by simpa using hv)
    exact ⟨d, h1, Rel.mono k h2⟩
  · rintro i h' ⟨⟨o, e, _, d⟩, _⟩
    exact ⟨⟨o, e⟩, noSeq_fields e d⟩
theorem open_tuple {a Ia : Addr} {vs : Array Value} {n : Nat} {l : List PyData} (hh : A.handled = none) (hi : h.get? Ia = some { cls := .type "tuple_iterator", dict := none, data := .fields #[.ref a, .int 0 0], slots := #[] }) (e : h.get? a = some (tupO vs n)) (r : RelAll (TT β σ) h vs.toList l) (hs : Stay β σ h a) :
    ∃ fp P St, Opened Z A Ia fp l P St β σ h := by
  have hne : a ≠ Ia := fun q => by rw [q, hi] at e; injection e with e; exact absurd (congrArg Obj.cls e) (by simp)
  have hz := r.length
  simp at hz
  have W := Walks.tuple (prog := Z.prog) (w := Z.w) hh Ia a hne vs
  rw [hz] at W
  refine ⟨_, _, _, ⟨W, ⟨⟨_, hi, rfl, rfl⟩, ⟨_, e, rfl, _, rfl⟩⟩, ?_, ?_, ?_⟩⟩
  · intro b hb
    simp at hb
    rcases hb with rfl | rfl
    · exact .inl rfl
    · exact .inr hs
  · intro i v _ hv β' σ' h' k
    obtain ⟨d, h1, h2⟩ := r.getV (k := i) (v := v) (by simpa using hv)
    exact ⟨d, h1, Rel.mono k h2⟩
  · rintro i h' ⟨⟨o, e, _, d⟩, _⟩
    exact ⟨⟨o, e⟩, noSeq_fields e d⟩

theorem pushed_keep (o : Obj) : ∀ b x, h.get? b = some x → (h.push o).get? b = some x := fun b x e => Heap.get?_push_of_some _ e

/-- opening a sequence -/
theorem openV_sound {x : V} {v : Value} {l : List PyData} {lk : Option Nat} {E : Value → Shared → Prop} (hh : A.handled = none) (I : Inv Z β σ s.heap) (r : VRel β σ s.heap v x) (ho : openV x σ = some (l, lk)) :
    wpAny (model Z.prog Z.w) A (pyIter v) (fun it s₂ => ItPost Z A ⟨l, l, lk⟩ β σ s σ it s₂) E s := by
  cases x with
  | un => cases ho
  | locs _ => cases ho
  | d y =>
    rcases oc_some ho with ⟨l', hl, ho⟩ | ho
    · cases ho
      rw [tupD_ok hl] at r
      obtain ⟨a, vs, m, rfl, e, t, z, q⟩ := vtup r
      refine wpAny_pyIter_tuple ⟨_, e, rfl, _, rfl⟩ ?_
      have hk := pushed_keep (h := s.heap) { cls := .type "tuple_iterator", data := .fields #[.ref a, .int 0 0] }
      obtain ⟨fp, P, St, Op⟩ := open_tuple (Z := Z) (A := A) (β := β) (σ := σ) hh (Heap.get?_push_size s.heap rfl) (hk _ _ e) (q.mono fun x o _ _ e _ t => ⟨hk _ _ e, t⟩) (.inr ⟨⟨_, _, _, hk _ _ e, rfl⟩, t⟩)
      exact ⟨β, _, fp, P, St, rfl, Step.grow hk rfl rfl, I.grow hk, fresh_size _, I.notMem (fresh_size _), Op, (fun n q => by cases q), z⟩
    · obtain ⟨l', hl, ho⟩ := oc_one ho
      cases ho
      rw [lstD_ok hl] at r
      cases r with
      | @list a vs m xs e t z q =>
        refine wpAny_pyIter_list ⟨_, e, rfl, _, rfl⟩ ?_
        have hk := pushed_keep (h := s.heap) { cls := .type "list_iterator", data := .fields #[.ref a, .int 0 0] }
        obtain ⟨fp, P, St, Op⟩ := open_listS (Z := Z) (A := A) (β := β) (σ := σ) hh (Heap.get?_push_size s.heap rfl) (hk _ _ e) (q.mono fun x o _ _ e _ t => ⟨hk _ _ e, t⟩) (.inr ⟨⟨_, _, _, hk _ _ e, rfl⟩, t⟩)
        exact ⟨β, _, fp, P, St, rfl, Step.grow hk rfl rfl, I.grow hk, fresh_size _, I.notMem (fresh_size _), Op, (fun n q => by cases q), z⟩
  | loc n =>
    obtain ⟨a, hb, rfl⟩ := r
    obtain ⟨l', hc, ho⟩ := Option.map_eq_some_iff.mp ho
    cases ho
    have hc := lstAt_ok hc
    obtain ⟨vs, m, e, q, z⟩ := I.cell n a _ hb hc
    refine wpAny_pyIter_list ⟨_, e, rfl, _, rfl⟩ ?_
    have hk := pushed_keep (h := s.heap) { cls := .type "list_iterator", data := .fields #[.ref a, .int 0 0] }
    have tt : ∀ x, TT β (σ.set n .busy) x ↔ TT β σ x := fun x => TT_congr (c₀ := .lst l) (c := .busy) hc rfl
    obtain ⟨fp, P, St, Op⟩ := open_listS (Z := Z) (A := A) (β := β) (σ := σ.set n .busy) hh (Heap.get?_push_size s.heap rfl) (hk _ _ e) (q.mono fun x o _ _ e _ t => ⟨hk _ _ e, fun z => t ((tt x).mp z)⟩) (.inl ⟨n, hb, get_set_eq hc⟩)
    exact ⟨β, _, fp, P, St, rfl, Step.grow hk rfl rfl, I.grow hk, fresh_size _, I.notMem (fresh_size _), Op, (fun k q => by cases q; exact hc), z⟩

theorem rangeL_len (a b : Int) : (rangeL a b).length = (b - a).toNat := by simp [rangeL]
theorem range_sound {a b : Int} {r : Addr} {t u v : Tok} {E : Value → Shared → Prop} (hh : A.handled = none) (ha : -100000 ≤ a ∧ a ≤ 100000) (hb : -100000 ≤ b ∧ b ≤ 100000) (I : Inv Z β σ s.heap) (hr : IsRange s.heap r a b 1 t u v) :
    wpAny (model Z.prog Z.w) A (pyIter (.ref r)) (fun it s₂ => ItPost Z A ⟨rangeL a b, [], none⟩ β σ s σ it s₂) E s := by
  refine wpAny_pyIter_range hr (small_one (by omega) (by omega) (by omega) (by omega)) ?_
  have hsz : Builtin.Range.rangeSize a b 1 = (((b - a).toNat : Nat) : Int) := by rw [rangeSize_one]; split <;> omega
  have hk := pushed_keep (h := s.heap) { cls := .type "range_iterator", data := .fields #[rawInt a, rawInt (Builtin.Range.rangeSize a b 1), rawInt 1] }
  have W := Walks.range (prog := Z.prog) (w := Z.w) hh s.heap.objs.size a 1 (b - a).toNat
  rw [← rangeL_len] at W
  refine ⟨β, s.heap.objs.size, _, _, _, rfl, Step.grow hk rfl rfl, I.grow hk, fresh_size _, I.notMem (fresh_size _), ⟨W, ?_, ?_, ?_, ?_⟩, (fun n q => by cases q), ?_⟩
  · show IsRangeIter _ _ (a + ((0 : Nat) : Int) * 1) ((((rangeL a b).length : Nat) : Int) - ((0 : Nat) : Int)) 1
    have e1 : a + ((0 : Nat) : Int) * 1 = a := by omega
    have e2 : (((rangeL a b).length : Nat) : Int) - ((0 : Nat) : Int) = Builtin.Range.rangeSize a b 1 := by rw [rangeL_len, hsz]; omega
    rw [e1, e2]
    exact Heap.get?_push_size _ rfl
  · intro c hc; simp at hc; exact .inl hc
  · rintro i x hi ⟨t, rfl⟩ β' σ' h' _
    rw [rangeL_len] at hi
    refine ⟨.int (a + i), ?_, ?_⟩
    · simp [rangeL, hi]
    · rw [Int.mul_one]; exact .int _ _
  · intro i h' st
    exact ⟨⟨_, st⟩, noSeq_fields st rfl⟩
  · rw [rangeL_len]; unfold LIM; omega

/-- the loop is left: the lock goes -/
theorem closeLoop {Ia : Addr} {lk : Option Nat} {base : List PyData} (S0 : Step O β σ s β₁ σ₁ s₁) (I₁ : Inv Z β₁ σ₁ s₁.heap) (hlk : ∀ n, lk = some n → σ₁[n]? = some (.lst base)) (S : Step (fun x => O x ∨ x = Ia) β₁ (lockS lk σ₁) s₁ β₂ σ₂ s₂) (I₂ : Inv Z β₂ σ₂ s₂.heap)
    (hO : ∀ x, O x → ¬ seqAt s₁.heap x) (hi : ¬ seqAt s₁.heap Ia) (hf : s.heap.get? Ia = none) : Step O β σ s β₂ (unlockS lk base σ₂) s₂ ∧ Inv Z β₂ (unlockS lk base σ₂) s₂.heap ∧ ∀ x, TT β₂ (unlockS lk base σ₂) x ↔ TT β₂ σ₂ x := by
  have drop : ∀ {σ' : Store}, Step (fun x => O x ∨ x = Ia) β σ s β₂ σ' s₂ → Step O β σ s β₂ σ' s₂ := fun T =>
    ⟨T.ext, T.mono, fun x o hx hw hn => T.keep x o hx hw (fun z => z.elim hn fun q => by rw [q, hf] at hx; cases hx), T.alive, T.gens, T.os⟩
  have hO' : ∀ x, (O x ∨ x = Ia) → ¬ seqAt s₁.heap x := fun x z => z.elim (hO x) fun q => q ▸ hi
  cases lk with
  | none => exact ⟨drop ((S0.weaken fun _ => .inl).trans S), I₂, fun _ => .rfl⟩
  | some n =>
    have hn := hlk n rfl
    have hlt : n < β₁.length := by rw [I₁.len]; exact (List.getElem?_eq_some_iff.mp hn).1
    have hb := List.getElem?_eq_getElem hlt
    have U := unlockBox I₁ hb hn S hO' I₂
    have st : σ₂[n]? = some .busy := by
      have hlt₂ : n < σ₂.length := by rw [← I₂.len]; exact (List.getElem?_eq_some_iff.mp (S.get hb)).1
      obtain ⟨c, h1, _, _, h4⟩ := S.mono n σ₂[n] hlt (List.getElem?_eq_getElem hlt₂)
      have : (lockS (some n) σ₁)[n]? = some .busy := get_set_eq hn
      rw [this] at h1; cases h1
      rw [List.getElem?_eq_getElem hlt₂, h4 rfl]
    exact ⟨drop ((S0.weaken fun _ => .inl).trans U.1), U.2, fun x => TT_congr (c₀ := .busy) (c := .lst base) st rfl⟩
theorem lockInv {lk : Option Nat} {base : List PyData} (I₁ : Inv Z β₁ σ₁ s₁.heap) (hlk : ∀ n, lk = some n → σ₁[n]? = some (.lst base)) : Inv Z β₁ (lockS lk σ₁) s₁.heap ∧ Step noO β₁ σ₁ s₁ β₁ (lockS lk σ₁) s₁ := by
  cases lk with
  | none => exact ⟨I₁, Step.refl⟩
  | some n =>
    have hn := hlk n rfl
    have hlt : n < β₁.length := by rw [I₁.len]; exact (List.getElem?_eq_some_iff.mp hn).1
    have := shutBox (O := noO) (c := .busy) I₁ (List.getElem?_eq_getElem hlt) hn rfl rfl
    exact ⟨this.2, this.1⟩
end
end Mine

set_option autoImplicit false
set_option linter.unusedVariables false
namespace Mine
open PySem PySem.Calls

/-! ## parts of a text -/
theorem byR' {α : Sort _} {a b : α} (h : a = b) : a = b := h
theorem nos {α : Type} {o : Option α} {x : α} {P : Prop} (h : o = some x) (hn : o = none) : P := by rw [hn] at h; cases h
noncomputable def ob {α : Type} (o : Option α) (f : α → Bool) : Bool := match o with
  | some a => f a
  | none => false
theorem ob_ok {α : Type} {o : Option α} {f : α → Bool} (h : ob o f = true) : ∃ a, o = some a ∧ f a = true := by
  cases o with
  | none => cases h
  | some a => exact ⟨a, rfl, h⟩
noncomputable def gC (ex : Expr) : Option (Const) := Expr.casesOn (motive_1 := fun _ => Option (Const)) ex (fun _ _ _ => none) (fun _ _ _ => none) (fun _ _ _ _ => none) (fun _ _ _ => none) (fun _ _ _ _ => none) (fun _ _ _ _ => none) (fun _ _ _ => none) (fun _ _ _ => none) (fun _ _ _ _ => none) (fun _ _ _ _ => none) (fun _ _ _ _ _ => none) (fun _ _ _ _ => none) (fun _ _ => none) (fun _ _ => none) (fun _ _ => none) (fun _ _ _ _ => none) (fun _ _ _ _ => none) (fun _ _ _ _ => none) (fun _ _ => none) (fun a0 _ _ => some a0) (fun _ _ _ => none) (fun _ _ _ => none) (fun _ _ => none) (fun _ _ => none) (fun _ _ => none) (fun _ _ _ => none) (fun _ _ _ _ => none)
theorem gC_ok {ex : Expr} {x : Const} (h : gC ex = some x) : ∃ a b, ex = .Constant x a b := by
  cases ex <;> first | exact nos h rfl | (cases h; exact ⟨_, _, rfl⟩)
noncomputable def gName (ex : Expr) : Option (Str) := Expr.casesOn (motive_1 := fun _ => Option (Str)) ex (fun _ _ _ => none) (fun _ _ _ => none) (fun _ _ _ _ => none) (fun _ _ _ => none) (fun _ _ _ _ => none) (fun _ _ _ _ => none) (fun _ _ _ => none) (fun _ _ _ => none) (fun _ _ _ _ => none) (fun _ _ _ _ => none) (fun _ _ _ _ _ => none) (fun _ _ _ _ => none) (fun _ _ => none) (fun _ _ => none) (fun _ _ => none) (fun _ _ _ _ => none) (fun _ _ _ _ => none) (fun _ _ _ _ => none) (fun _ _ => none) (fun _ _ _ => none) (fun _ _ _ => none) (fun _ _ _ => none) (fun _ _ => none) (fun a0 _ => some a0) (fun _ _ => none) (fun _ _ _ => none) (fun _ _ _ _ => none)
theorem gName_ok {ex : Expr} {x : Str} (h : gName ex = some x) : ∃ p, ex = .Name x p := by
  cases ex <;> first | exact nos h rfl | (cases h; exact ⟨_, rfl⟩)
noncomputable def gBin (ex : Expr) : Option (Expr × Operator × Expr) := Expr.casesOn (motive_1 := fun _ => Option (Expr × Operator × Expr)) ex (fun _ _ _ => none) (fun _ _ _ => none) (fun a0 a1 a2 _ => some (a0, a1, a2)) (fun _ _ _ => none) (fun _ _ _ _ => none) (fun _ _ _ _ => none) (fun _ _ _ => none) (fun _ _ _ => none) (fun _ _ _ _ => none) (fun _ _ _ _ => none) (fun _ _ _ _ _ => none) (fun _ _ _ _ => none) (fun _ _ => none) (fun _ _ => none) (fun _ _ => none) (fun _ _ _ _ => none) (fun _ _ _ _ => none) (fun _ _ _ _ => none) (fun _ _ => none) (fun _ _ _ => none) (fun _ _ _ => none) (fun _ _ _ => none) (fun _ _ => none) (fun _ _ => none) (fun _ _ => none) (fun _ _ _ => none) (fun _ _ _ _ => none)
theorem gBin_ok {ex : Expr} {l r : Expr} {o : Operator} (h : gBin ex = some (l, o, r)) : ∃ p, ex = .BinOp l o r p := by
  cases ex <;> first | exact nos h rfl | (cases h; exact ⟨_, rfl⟩)
noncomputable def gUn (ex : Expr) : Option (UnaryOp × Expr) := Expr.casesOn (motive_1 := fun _ => Option (UnaryOp × Expr)) ex (fun _ _ _ => none) (fun _ _ _ => none) (fun _ _ _ _ => none) (fun a0 a1 _ => some (a0, a1)) (fun _ _ _ _ => none) (fun _ _ _ _ => none) (fun _ _ _ => none) (fun _ _ _ => none) (fun _ _ _ _ => none) (fun _ _ _ _ => none) (fun _ _ _ _ _ => none) (fun _ _ _ _ => none) (fun _ _ => none) (fun _ _ => none) (fun _ _ => none) (fun _ _ _ _ => none) (fun _ _ _ _ => none) (fun _ _ _ _ => none) (fun _ _ => none) (fun _ _ _ => none) (fun _ _ _ => none) (fun _ _ _ => none) (fun _ _ => none) (fun _ _ => none) (fun _ _ => none) (fun _ _ _ => none) (fun _ _ _ _ => none)
theorem gUn_ok {ex : Expr} {o : UnaryOp} {x : Expr} (h : gUn ex = some (o, x)) : ∃ p, ex = .UnaryOp o x p := by
  cases ex <;> first | exact nos h rfl | (cases h; exact ⟨_, rfl⟩)
noncomputable def gBop (ex : Expr) : Option (BoolOp × List Expr) := Expr.casesOn (motive_1 := fun _ => Option (BoolOp × List Expr)) ex (fun a0 a1 _ => some (a0, a1)) (fun _ _ _ => none) (fun _ _ _ _ => none) (fun _ _ _ => none) (fun _ _ _ _ => none) (fun _ _ _ _ => none) (fun _ _ _ => none) (fun _ _ _ => none) (fun _ _ _ _ => none) (fun _ _ _ _ => none) (fun _ _ _ _ _ => none) (fun _ _ _ _ => none) (fun _ _ => none) (fun _ _ => none) (fun _ _ => none) (fun _ _ _ _ => none) (fun _ _ _ _ => none) (fun _ _ _ _ => none) (fun _ _ => none) (fun _ _ _ => none) (fun _ _ _ => none) (fun _ _ _ => none) (fun _ _ => none) (fun _ _ => none) (fun _ _ => none) (fun _ _ _ => none) (fun _ _ _ _ => none)
theorem gBop_ok {ex : Expr} {o : BoolOp} {xs : List Expr} (h : gBop ex = some (o, xs)) : ∃ p, ex = .BoolOp o xs p := by
  cases ex <;> first | exact nos h rfl | (cases h; exact ⟨_, rfl⟩)
noncomputable def gCmp (ex : Expr) : Option (Expr × List CmpOp × List Expr) := Expr.casesOn (motive_1 := fun _ => Option (Expr × List CmpOp × List Expr)) ex (fun _ _ _ => none) (fun _ _ _ => none) (fun _ _ _ _ => none) (fun _ _ _ => none) (fun _ _ _ _ => none) (fun _ _ _ _ => none) (fun _ _ _ => none) (fun _ _ _ => none) (fun _ _ _ _ => none) (fun _ _ _ _ => none) (fun _ _ _ _ _ => none) (fun _ _ _ _ => none) (fun _ _ => none) (fun _ _ => none) (fun _ _ => none) (fun a0 a1 a2 _ => some (a0, a1, a2)) (fun _ _ _ _ => none) (fun _ _ _ _ => none) (fun _ _ => none) (fun _ _ _ => none) (fun _ _ _ => none) (fun _ _ _ => none) (fun _ _ => none) (fun _ _ => none) (fun _ _ => none) (fun _ _ _ => none) (fun _ _ _ _ => none)
theorem gCmp_ok {ex : Expr} {l : Expr} {o : List CmpOp} {r : List Expr} (h : gCmp ex = some (l, o, r)) : ∃ p, ex = .Compare l o r p := by
  cases ex <;> first | exact nos h rfl | (cases h; exact ⟨_, rfl⟩)
noncomputable def gIf (ex : Expr) : Option (Expr × Expr × Expr) := Expr.casesOn (motive_1 := fun _ => Option (Expr × Expr × Expr)) ex (fun _ _ _ => none) (fun _ _ _ => none) (fun _ _ _ _ => none) (fun _ _ _ => none) (fun _ _ _ _ => none) (fun a0 a1 a2 _ => some (a0, a1, a2)) (fun _ _ _ => none) (fun _ _ _ => none) (fun _ _ _ _ => none) (fun _ _ _ _ => none) (fun _ _ _ _ _ => none) (fun _ _ _ _ => none) (fun _ _ => none) (fun _ _ => none) (fun _ _ => none) (fun _ _ _ _ => none) (fun _ _ _ _ => none) (fun _ _ _ _ => none) (fun _ _ => none) (fun _ _ _ => none) (fun _ _ _ => none) (fun _ _ _ => none) (fun _ _ => none) (fun _ _ => none) (fun _ _ => none) (fun _ _ _ => none) (fun _ _ _ _ => none)
theorem gIf_ok {ex : Expr} {l o r : Expr} (h : gIf ex = some (l, o, r)) : ∃ p, ex = .IfExp l o r p := by
  cases ex <;> first | exact nos h rfl | (cases h; exact ⟨_, rfl⟩)
noncomputable def gTup (ex : Expr) : Option (List Expr) := Expr.casesOn (motive_1 := fun _ => Option (List Expr)) ex (fun _ _ _ => none) (fun _ _ _ => none) (fun _ _ _ _ => none) (fun _ _ _ => none) (fun _ _ _ _ => none) (fun _ _ _ _ => none) (fun _ _ _ => none) (fun _ _ _ => none) (fun _ _ _ _ => none) (fun _ _ _ _ => none) (fun _ _ _ _ _ => none) (fun _ _ _ _ => none) (fun _ _ => none) (fun _ _ => none) (fun _ _ => none) (fun _ _ _ _ => none) (fun _ _ _ _ => none) (fun _ _ _ _ => none) (fun _ _ => none) (fun _ _ _ => none) (fun _ _ _ => none) (fun _ _ _ => none) (fun _ _ => none) (fun _ _ => none) (fun _ _ => none) (fun a0 _ _ => some a0) (fun _ _ _ _ => none)
theorem gTup_ok {ex : Expr} {x : List Expr} (h : gTup ex = some x) : ∃ k p, ex = .Tuple x k p := by
  cases ex <;> first | exact nos h rfl | (cases h; exact ⟨_, _, rfl⟩)
noncomputable def gList (ex : Expr) : Option (List Expr) := Expr.casesOn (motive_1 := fun _ => Option (List Expr)) ex (fun _ _ _ => none) (fun _ _ _ => none) (fun _ _ _ _ => none) (fun _ _ _ => none) (fun _ _ _ _ => none) (fun _ _ _ _ => none) (fun _ _ _ => none) (fun _ _ _ => none) (fun _ _ _ _ => none) (fun _ _ _ _ => none) (fun _ _ _ _ _ => none) (fun _ _ _ _ => none) (fun _ _ => none) (fun _ _ => none) (fun _ _ => none) (fun _ _ _ _ => none) (fun _ _ _ _ => none) (fun _ _ _ _ => none) (fun _ _ => none) (fun _ _ _ => none) (fun _ _ _ => none) (fun _ _ _ => none) (fun _ _ => none) (fun _ _ => none) (fun a0 _ => some a0) (fun _ _ _ => none) (fun _ _ _ _ => none)
theorem gList_ok {ex : Expr} {x : List Expr} (h : gList ex = some x) : ∃ p, ex = .List x p := by
  cases ex <;> first | exact nos h rfl | (cases h; exact ⟨_, rfl⟩)
noncomputable def gDict (ex : Expr) : Option (List (Option Expr) × List Expr) := Expr.casesOn (motive_1 := fun _ => Option (List (Option Expr) × List Expr)) ex (fun _ _ _ => none) (fun _ _ _ => none) (fun _ _ _ _ => none) (fun _ _ _ => none) (fun _ _ _ _ => none) (fun _ _ _ _ => none) (fun a0 a1 _ => some (a0, a1)) (fun _ _ _ => none) (fun _ _ _ _ => none) (fun _ _ _ _ => none) (fun _ _ _ _ _ => none) (fun _ _ _ _ => none) (fun _ _ => none) (fun _ _ => none) (fun _ _ => none) (fun _ _ _ _ => none) (fun _ _ _ _ => none) (fun _ _ _ _ => none) (fun _ _ => none) (fun _ _ _ => none) (fun _ _ _ => none) (fun _ _ _ => none) (fun _ _ => none) (fun _ _ => none) (fun _ _ => none) (fun _ _ _ => none) (fun _ _ _ _ => none)
theorem gDict_ok {ex : Expr} {k : List (Option Expr)} {v : List Expr} (h : gDict ex = some (k, v)) : ∃ p, ex = .Dict k v p := by
  cases ex <;> first | exact nos h rfl | (cases h; exact ⟨_, rfl⟩)
noncomputable def gSub (ex : Expr) : Option (Expr × Expr) := Expr.casesOn (motive_1 := fun _ => Option (Expr × Expr)) ex (fun _ _ _ => none) (fun _ _ _ => none) (fun _ _ _ _ => none) (fun _ _ _ => none) (fun _ _ _ _ => none) (fun _ _ _ _ => none) (fun _ _ _ => none) (fun _ _ _ => none) (fun _ _ _ _ => none) (fun _ _ _ _ => none) (fun _ _ _ _ _ => none) (fun _ _ _ _ => none) (fun _ _ => none) (fun _ _ => none) (fun _ _ => none) (fun _ _ _ _ => none) (fun _ _ _ _ => none) (fun _ _ _ _ => none) (fun _ _ => none) (fun _ _ _ => none) (fun _ _ _ => none) (fun a0 a1 _ => some (a0, a1)) (fun _ _ => none) (fun _ _ => none) (fun _ _ => none) (fun _ _ _ => none) (fun _ _ _ _ => none)
theorem gSub_ok {ex : Expr} {v x : Expr} (h : gSub ex = some (v, x)) : ∃ p, ex = .Subscript v x p := by
  cases ex <;> first | exact nos h rfl | (cases h; exact ⟨_, rfl⟩)
noncomputable def gSlc (ex : Expr) : Option (Option Expr × Option Expr × Option Expr) := Expr.casesOn (motive_1 := fun _ => Option (Option Expr × Option Expr × Option Expr)) ex (fun _ _ _ => none) (fun _ _ _ => none) (fun _ _ _ _ => none) (fun _ _ _ => none) (fun _ _ _ _ => none) (fun _ _ _ _ => none) (fun _ _ _ => none) (fun _ _ _ => none) (fun _ _ _ _ => none) (fun _ _ _ _ => none) (fun _ _ _ _ _ => none) (fun _ _ _ _ => none) (fun _ _ => none) (fun _ _ => none) (fun _ _ => none) (fun _ _ _ _ => none) (fun _ _ _ _ => none) (fun _ _ _ _ => none) (fun _ _ => none) (fun _ _ _ => none) (fun _ _ _ => none) (fun _ _ _ => none) (fun _ _ => none) (fun _ _ => none) (fun _ _ => none) (fun _ _ _ => none) (fun a0 a1 a2 _ => some (a0, a1, a2))
theorem gSlc_ok {ex : Expr} {l u t : Option Expr} (h : gSlc ex = some (l, u, t)) : ∃ p, ex = .Slice l u t p := by
  cases ex <;> first | exact nos h rfl | (cases h; exact ⟨_, rfl⟩)
noncomputable def gComp (ex : Expr) : Option (Expr × List Comprehension × Scope) := Expr.casesOn (motive_1 := fun _ => Option (Expr × List Comprehension × Scope)) ex (fun _ _ _ => none) (fun _ _ _ => none) (fun _ _ _ _ => none) (fun _ _ _ => none) (fun _ _ _ _ => none) (fun _ _ _ _ => none) (fun _ _ _ => none) (fun _ _ _ => none) (fun a0 a1 a2 _ => some (a0, a1, a2)) (fun _ _ _ _ => none) (fun _ _ _ _ _ => none) (fun _ _ _ _ => none) (fun _ _ => none) (fun _ _ => none) (fun _ _ => none) (fun _ _ _ _ => none) (fun _ _ _ _ => none) (fun _ _ _ _ => none) (fun _ _ => none) (fun _ _ _ => none) (fun _ _ _ => none) (fun _ _ _ => none) (fun _ _ => none) (fun _ _ => none) (fun _ _ => none) (fun _ _ _ => none) (fun _ _ _ _ => none)
theorem gComp_ok {ex : Expr} {e : Expr} {g : List Comprehension} {s : Scope} (h : gComp ex = some (e, g, s)) : ∃ p, ex = .ListComp e g s p := by
  cases ex <;> first | exact nos h rfl | (cases h; exact ⟨_, rfl⟩)
noncomputable def gCall (ex : Expr) : Option (Expr × List Expr × List Keyword × Pos) := Expr.casesOn (motive_1 := fun _ => Option (Expr × List Expr × List Keyword × Pos)) ex (fun _ _ _ => none) (fun _ _ _ => none) (fun _ _ _ _ => none) (fun _ _ _ => none) (fun _ _ _ _ => none) (fun _ _ _ _ => none) (fun _ _ _ => none) (fun _ _ _ => none) (fun _ _ _ _ => none) (fun _ _ _ _ => none) (fun _ _ _ _ _ => none) (fun _ _ _ _ => none) (fun _ _ => none) (fun _ _ => none) (fun _ _ => none) (fun _ _ _ _ => none) (fun a0 a1 a2 a3 => some (a0, a1, a2, a3)) (fun _ _ _ _ => none) (fun _ _ => none) (fun _ _ _ => none) (fun _ _ _ => none) (fun _ _ _ => none) (fun _ _ => none) (fun _ _ => none) (fun _ _ => none) (fun _ _ _ => none) (fun _ _ _ _ => none)
theorem gCall_ok {ex : Expr} {f : Expr} {a : List Expr} {k : List Keyword} {p : Pos} (h : gCall ex = some (f, a, k, p)) : ex = .Call f a k p := by
  cases ex <;> first | exact nos h rfl | (cases h; exact rfl)
noncomputable def gAttr (ex : Expr) : Option (Expr × Str × Pos) := Expr.casesOn (motive_1 := fun _ => Option (Expr × Str × Pos)) ex (fun _ _ _ => none) (fun _ _ _ => none) (fun _ _ _ _ => none) (fun _ _ _ => none) (fun _ _ _ _ => none) (fun _ _ _ _ => none) (fun _ _ _ => none) (fun _ _ _ => none) (fun _ _ _ _ => none) (fun _ _ _ _ => none) (fun _ _ _ _ _ => none) (fun _ _ _ _ => none) (fun _ _ => none) (fun _ _ => none) (fun _ _ => none) (fun _ _ _ _ => none) (fun _ _ _ _ => none) (fun _ _ _ _ => none) (fun _ _ => none) (fun _ _ _ => none) (fun a0 a1 a2 => some (a0, a1, a2)) (fun _ _ _ => none) (fun _ _ => none) (fun _ _ => none) (fun _ _ => none) (fun _ _ _ => none) (fun _ _ _ _ => none)
theorem gAttr_ok {ex : Expr} {o : Expr} {n : Str} {p : Pos} (h : gAttr ex = some (o, n, p)) : ex = .Attribute o n p := by
  cases ex <;> first | exact nos h rfl | (cases h; exact rfl)
noncomputable def cNone : Const → Option Unit
  | .none => some ()
  | _ => none
noncomputable def cBool : Const → Option Bool
  | .bool b => some b
  | _ => none
noncomputable def cInt : Const → Option Int
  | .int b => some b
  | _ => none
noncomputable def cStr : Const → Option Str
  | .str b => some b
  | _ => none
noncomputable def gNone (ex : Expr) : Option Unit := (gC ex).bind cNone
noncomputable def gBool (ex : Expr) : Option Bool := (gC ex).bind cBool
noncomputable def gInt (ex : Expr) : Option Int := (gC ex).bind cInt
noncomputable def gStr (ex : Expr) : Option Str := (gC ex).bind cStr
theorem gNone_ok {ex : Expr} {u : Unit} (h : gNone ex = some u) : ∃ a b, ex = .Constant .none a b := by
  obtain ⟨c, h1, h2⟩ := Option.bind_eq_some_iff.mp h
  obtain ⟨a, b, rfl⟩ := gC_ok h1
  cases c <;> first | exact ⟨_, _, rfl⟩ | exact nos h2 rfl
theorem gBool_ok {ex : Expr} {x : Bool} (h : gBool ex = some x) : ∃ a b, ex = .Constant (.bool x) a b := by
  obtain ⟨c, h1, h2⟩ := Option.bind_eq_some_iff.mp h
  obtain ⟨a, b, rfl⟩ := gC_ok h1
  cases c <;> first | exact nos h2 rfl | (cases h2; exact ⟨_, _, rfl⟩)
theorem gInt_ok {ex : Expr} {x : Int} (h : gInt ex = some x) : ∃ a b, ex = .Constant (.int x) a b := by
  obtain ⟨c, h1, h2⟩ := Option.bind_eq_some_iff.mp h
  obtain ⟨a, b, rfl⟩ := gC_ok h1
  cases c <;> first | exact nos h2 rfl | (cases h2; exact ⟨_, _, rfl⟩)
theorem gStr_ok {ex : Expr} {x : Str} (h : gStr ex = some x) : ∃ a b, ex = .Constant (.str x) a b := by
  obtain ⟨c, h1, h2⟩ := Option.bind_eq_some_iff.mp h
  obtain ⟨a, b, rfl⟩ := gC_ok h1
  cases c <;> first | exact nos h2 rfl | (cases h2; exact ⟨_, _, rfl⟩)
noncomputable def gNeg (ex : Expr) : Option Expr := (gUn ex).bind fun q => if q.1 = .USub then some q.2 else none
noncomputable def gNot (ex : Expr) : Option Expr := (gUn ex).bind fun q => if q.1 = .Not then some q.2 else none
theorem un_ok {ex x : Expr} {o : UnaryOp} (h : ((gUn ex).bind fun q => if q.1 = o then some q.2 else none) = some x) : ∃ p, ex = .UnaryOp o x p := by
  obtain ⟨⟨o', y⟩, h1, h2⟩ := Option.bind_eq_some_iff.mp h
  obtain ⟨p, rfl⟩ := gUn_ok h1
  by_cases ho : o' = o
  · rw [if_pos ho] at h2; cases h2; subst ho; exact ⟨p, rfl⟩
  · rw [if_neg ho] at h2; cases h2
theorem gNeg_ok {ex x : Expr} (h : gNeg ex = some x) : ∃ p, ex = .UnaryOp .USub x p := un_ok h
theorem gNot_ok {ex x : Expr} (h : gNot ex = some x) : ∃ p, ex = .UnaryOp .Not x p := un_ok h

noncomputable def unc {α : Type} : List α → Option (α × List α)
  | a :: b => some (a, b)
  | _ => none
theorem unc_ok {α : Type} {l : List α} {a : α} {r : List α} (h : unc l = some (a, r)) : l = a :: r := by
  cases l with
  | nil => cases h
  | cons x l => cases h; rfl
theorem nil_ok {α : Type} {l : List α} (h : l.isEmpty = true) : l = [] := by
  cases l with
  | nil => rfl
  | cons x l => cases h
noncomputable def emp {α : Type} : List α → Option Unit
  | [] => some ()
  | _ => none
theorem emp_ok {α : Type} {l : List α} {u : Unit} (h : emp l = some u) : l = [] := by
  cases l with
  | nil => rfl
  | cons _ _ => exact nos h rfl
noncomputable def gFun (ex : Expr) : Option (Str × List Expr) := (gCall ex).bind fun q => (gName q.1).bind fun x => (emp q.2.2.1).bind fun _ => some (x, q.2.1)
theorem gFun_ok {ex : Expr} {x : Str} {a : List Expr} (h : gFun ex = some (x, a)) : ∃ p pos, ex = .Call (.Name x p) a [] pos := by
  obtain ⟨q, h1, h⟩ := Option.bind_eq_some_iff.mp h
  obtain ⟨x', h2, h⟩ := Option.bind_eq_some_iff.mp h
  obtain ⟨_, h3, h⟩ := Option.bind_eq_some_iff.mp h
  obtain ⟨p, h2⟩ := gName_ok h2
  have h4 := Prod.mk.inj (Option.some.inj h)
  refine ⟨p, q.2.2.2, ?_⟩
  rw [gCall_ok (f := q.1) (a := q.2.1) (k := q.2.2.1) (p := q.2.2.2) h1, h2, emp_ok h3, h4.1, h4.2]
noncomputable def gMeth (ex : Expr) : Option (Expr × Str × Pos × List Expr × Pos) := (gCall ex).bind fun q => (gAttr q.1).bind fun o => (emp q.2.2.1).bind fun _ => some (o.1, o.2.1, o.2.2, q.2.1, q.2.2.2)
theorem gMeth_ok {ex ov : Expr} {nm : Str} {ap pos : Pos} {a : List Expr} (h : gMeth ex = some (ov, nm, ap, a, pos)) : ex = .Call (.Attribute ov nm ap) a [] pos := by
  obtain ⟨q, h1, h⟩ := Option.bind_eq_some_iff.mp h
  obtain ⟨o, h2, h⟩ := Option.bind_eq_some_iff.mp h
  obtain ⟨_, h3, h⟩ := Option.bind_eq_some_iff.mp h
  have h4 := Option.some.inj h
  have h2 := gAttr_ok (o := o.1) (n := o.2.1) (p := o.2.2) h2
  rw [gCall_ok (f := q.1) (a := q.2.1) (k := q.2.2.1) (p := q.2.2.2) h1, h2, emp_ok h3]
  cases h4; rfl
noncomputable def bTy : Bi → Option Ty
  | .isinst t => some t
  | _ => none
theorem bTy_ok {b : Bi} {t : Ty} (h : bTy b = some t) : b = .isinst t := by
  cases b <;> first | (cases h; rfl) | cases h

/-! ## the text against the program -/
noncomputable def nameOk (x : Str) : Bool := !(x == ("__debug__" : Str)) && !(x == ("__classdict__" : Str))
noncomputable def isG (ks : List (Str × NameKind)) (x : Str) : Bool := decide (ks.lookup x = some .globalImplicit) && nameOk x
noncomputable def goodB (x : Str) : Bool := PyData.strOk x && decide (x.cps.size ≤ LIM)
noncomputable def notStar (ex : Expr) : Bool := Expr.casesOn (motive_1 := fun _ => Bool) ex (fun _ _ _ => true) (fun _ _ _ => true) (fun _ _ _ _ => true) (fun _ _ _ => true) (fun _ _ _ _ => true) (fun _ _ _ _ => true) (fun _ _ _ => true) (fun _ _ _ => true) (fun _ _ _ _ => true) (fun _ _ _ _ => true) (fun _ _ _ _ _ => true) (fun _ _ _ _ => true) (fun _ _ => true) (fun _ _ => true) (fun _ _ => true) (fun _ _ _ _ => true) (fun _ _ _ _ => true) (fun _ _ _ _ => true) (fun _ _ => true) (fun _ _ _ => true) (fun _ _ _ => true) (fun _ _ _ => true) (fun _ _ => false) (fun _ _ => true) (fun _ _ => true) (fun _ _ _ => true) (fun _ _ _ _ => true)
noncomputable def notSlice (ex : Expr) : Bool := (gSlc ex).isNone
noncomputable def notSet (ex : Expr) : Bool := Expr.casesOn (motive_1 := fun _ => Bool) ex (fun _ _ _ => true) (fun _ _ _ => true) (fun _ _ _ _ => true) (fun _ _ _ => true) (fun _ _ _ _ => true) (fun _ _ _ _ => true) (fun _ _ _ => true) (fun _ _ _ => false) (fun _ _ _ _ => true) (fun _ _ _ _ => true) (fun _ _ _ _ _ => true) (fun _ _ _ _ => true) (fun _ _ => true) (fun _ _ => true) (fun _ _ => true) (fun _ _ _ _ => true) (fun _ _ _ _ => true) (fun _ _ _ _ => true) (fun _ _ => true) (fun _ _ _ => true) (fun _ _ _ => true) (fun _ _ _ => true) (fun _ _ => true) (fun _ _ => true) (fun _ _ => true) (fun _ _ _ => true) (fun _ _ _ _ => true)
noncomputable def notCall (ex : Expr) : Bool := (gCall ex).isNone
noncomputable def plainT : Expr → Bool
  | .UnaryOp .Not .. | .BoolOp .. | .IfExp .. | .Compare .. => false
  | _ => true
noncomputable def tyStr (t : Ty) : Str := Str.ofString (tyName t)
noncomputable def biStr : Bi → Str
  | .len => "len"
  | .list => "list"
  | .dict => "dict"
  | .int => "int"
  | .max => "max"
  | .tuple => "tuple"
  | .sorted => "sorted"
  | .sortedSet => ""
  | .any => "any"
  | .all => "all"
  | .isinst _ => "isinstance"
noncomputable def Bi.plain : Bi → Bool
  | .isinst _ | .sortedSet => false
  | _ => true

noncomputable def mTgt (sc : List (Str × Nat)) : Tgt → Expr → Bool
  | .var i, ex => ob (gName ex) fun x => decide (sc.lookup x = some i) && nameOk x
  | .tup _, _ => false
theorem mTgt_ok {sc : List (Str × Nat)} {t : Tgt} {ex : Expr} (h : mTgt sc t ex = true) : ∃ i x p, t = .var i ∧ ex = .Name x p ∧ sc.lookup x = some i ∧ nameOk x = true := by
  cases t with
  | tup l => cases h
  | var i =>
    replace h := ob_ok h; obtain ⟨x, h0, h⟩ := h
    obtain ⟨p, rfl⟩ := gName_ok h0
    have h : (decide (sc.lookup x = some i) && nameOk x) = true := h
    simp only [Bool.and_eq_true, decide_eq_true_eq] at h
    exact ⟨i, x, p, rfl, rfl, h.1, h.2⟩
noncomputable def tgtNames (ex : Expr) : List Str := oc (gName ex) (fun x => [x]) (oc (gTup ex) (fun xs => xs.filterMap gName) [])
noncomputable def tgtSlots : Tgt → List Nat
  | .var i => [i]
  | .tup is => is
/-- the names of a comprehension's own block -/
noncomputable def compSc (sc : List (Str × Nat)) (names : List (Str × NameKind)) (t : Tgt) (target : Expr) : List (Str × Nat) :=
  (tgtNames target).zip (tgtSlots t) ++ (names.filter fun x => decide (x.2 = .free)).filterMap fun x => (sc.lookup x.1).map fun i => (x.1, i)
noncomputable def compOk (ks : List (Str × NameKind)) (sc : List (Str × Nat)) (scope : Scope) (t : Tgt) (target : Expr) : Bool :=
  decide (scope.kind = .function) && (scope.names.all fun x => match x.2 with
    | .local => decide (scope.names.lookup x.1 = some .local)
    | .free => decide (scope.names.lookup x.1 = some .free) && decide (ks.lookup x.1 = some .cell ∨ ks.lookup x.1 = some .free) && (sc.lookup x.1).isSome && nameOk x.1
    | .globalImplicit => true
    | _ => false) &&
  ((tgtNames target).all fun x => decide (scope.names.lookup x = some .local) && nameOk x) && decide ((compSc sc scope.names t target).map (·.2)).Nodup && decide ((tgtNames target).length = (tgtSlots t).length)

section
variable (P : Nat → Option Fn) (gn : Nat → Str)
mutual
noncomputable def mE (ks : List (Str × NameKind)) (sc : List (Str × Nat)) : E → Expr → Bool
  | .none, ex => ob (gNone ex) fun _ => true
  | .bool b, ex => ob (gBool ex) fun c => b == c
  | .int i, ex => ob (gInt ex) fun j => decide (i = j)
  | .str x, ex => ob (gStr ex) fun y => decide (x = y) && goodB x
  | .var i, ex => ob (gName ex) fun x => decide (sc.lookup x = some i) && nameOk x
  | .glob g, ex => ob (gName ex) fun x => decide (x = gn g) && isG ks x
  | .bin op _ a b, ex => ob (gBin ex) fun q => decide (opOf op = q.2.1) && mE ks sc a q.1 && mE ks sc b q.2.2
  | .neg a, ex => ob (gNeg ex) fun x => mE ks sc a x
  | .not a, ex => ob (gNot ex) fun x => mE ks sc a x
  | .bop k es, ex => ob (gBop ex) fun q => decide (q.1 = if k then .And else .Or) && mEL ks sc es q.2
  | .cmp op a b, ex => ob (gCmp ex) fun q => ob (one q.2.1) fun o => ob (one q.2.2) fun r => decide (copOf op = o) && !behindInMarks o r && mE ks sc a q.1 && mE ks sc b r
  | .cmp2 _ _ _ _ _, _ => false
  | .ite c a b, ex => ob (gIf ex) fun q => mE ks sc c q.1 && mE ks sc a q.2.1 && mE ks sc b q.2.2
  | .tup es, ex => ob (gTup ex) fun xs => mEL ks sc es xs && decide (xs.length ≤ 1000)
  | .list _ es, ex => ob (gList ex) fun xs => mEL ks sc es xs && decide (xs.length ≤ 1000)
  | .dict0, ex => ob (gDict ex) fun q => q.1.isEmpty && q.2.isEmpty
  | .dict1 _ _, _ => false
  | .idx a i, ex => ob (gSub ex) fun q => notSlice q.2 && mE ks sc a q.1 && mE ks sc i q.2
  | .slc _ a lo hi, ex => ob (gSub ex) fun q => ob (gSlc q.2) fun p => p.2.2.isNone && mE ks sc a q.1 && mEO ks sc lo p.1 && mEO ks sc hi p.2.1
  | .comp _ t it c e, ex => ob (gComp ex) fun q => ob (one q.2.1) fun g => decide (g.is_async = 0) && mIt ks sc it g.iter && notSet g.iter && compOk ks sc q.2.2 t g.target && mTgt (compSc sc q.2.2.names t g.target) t g.target &&
        decide (g.ifs.length ≤ 1) && mEO q.2.2.names (compSc sc q.2.2.names t g.target) c g.ifs.head? && mE q.2.2.names (compSc sc q.2.2.names t g.target) e q.1
  | .call f es, ex => ob (gFun ex) fun q => decide ((P f).map (·.name) = some q.1) && isG ks q.1 && mEL ks sc es q.2
  | .bi b _ es, ex => ob (gFun ex) fun q => decide (q.1 = biStr b) && isG ks q.1 && (match bTy b with
      | some t => ob (two q.2) fun r => ob (gName r.2) fun z => decide (z = tyStr t) && isG ks z && mEL ks sc es [r.1]
      | none => b.plain && mEL ks sc es q.2)
  | .meth b o es, ex => ob (gMeth ex) fun q => decide (q.2.1 = meName b) && b.done && notCall q.1 && decide (q.2.2.2.1.length < 30) && decide (q.2.2.1.endLine = q.2.2.2.2.line) && mE ks sc o q.1 && mEL ks sc es q.2.2.2.1
  | .freeze e, ex => mE ks sc e ex
noncomputable def mEL (ks : List (Str × NameKind)) (sc : List (Str × Nat)) : EL → List Expr → Bool
  | .nil, xs => xs.isEmpty
  | .cons e es, xs => ob (unc xs) fun q => notStar q.1 && mE ks sc e q.1 && mEL ks sc es q.2
noncomputable def mEO (ks : List (Str × NameKind)) (sc : List (Str × Nat)) : EO → Option Expr → Bool
  | .no, x => x.isNone
  | .yes e, x => ob x fun x => mE ks sc e x
noncomputable def mIt (ks : List (Str × NameKind)) (sc : List (Str × Nat)) : It → Expr → Bool
  | .seq e, ex => mE ks sc e ex
  | .range e, ex => ob (gFun ex) fun q => ob (one q.2) fun a => decide (q.1 = ("range" : Str)) && isG ks q.1 && notStar a && mE ks sc e a
  | .range2 _ _, _ => false
  | .enum e, ex => false
end
end

theorem mEL_nil {ks : List (Str × NameKind)} {sc : List (Str × Nat)} {P : Nat → Option Fn} {gn : Nat → Str} {xs : List Expr} (h : mEL P gn ks sc .nil xs = true) : xs = [] := nil_ok h
theorem mEL_cons {ks : List (Str × NameKind)} {sc : List (Str × Nat)} {P : Nat → Option Fn} {gn : Nat → Str} {e : E} {es : EL} {xs : List Expr} (h : mEL P gn ks sc (.cons e es) xs = true) : ∃ y ys, xs = y :: ys ∧ notStar y = true ∧ mE P gn ks sc e y = true ∧ mEL P gn ks sc es ys = true := by
  replace h := ob_ok h; obtain ⟨⟨y, ys⟩, h1, h⟩ := h
  have h : (notStar y && mE P gn ks sc e y && mEL P gn ks sc es ys) = true := h
  simp only [Bool.and_eq_true] at h
  exact ⟨y, ys, unc_ok h1, h.1.1, h.1.2, h.2⟩

/-! ## the world -/
structure BiOk (Z : Cx) : Prop where
  free : ∀ b : Bi, Z.mg (biStr b) = none ∧ (b.plain = true ∨ (∃ t, b = .isinst t) → Z.mb (biStr b) = some (biVal b))
  ty : ∀ t : Ty, Z.mg (tyStr t) = none ∧ Z.mb (tyStr t) = some (.type (tyName t))
  range : Z.mg "range" = none ∧ Z.mb "range" = some (.type "range")

structure Wd (Z : Cx) (P : Nat → Option Fn) (gn : Nat → Str) (G : Nat → Option PyData) (cf : Nat → List V → Store → Res V) (d : Nat) : Prop where
  w : World0 Z
  y : Sys Z
  b : BiOk Z
  g : ∀ k x, G k = some x → ∃ v, Z.mg (gn k) = some v ∧ ∀ T h, Rel T h v x
  c : ∀ f fn, P f = some fn → ∃ a o fd, Z.mg fn.name = some (.ref a) ∧ Z.h₀.get? a = some o ∧ o.data = .func fd ∧
    ∀ A β σ s vs xs, AOk d A → Inv Z β σ s.heap → VRels β σ s.heap vs xs → Ev Z noO A (call (.ref a) vs) (cf f xs σ) VR β σ s

end Mine

set_option autoImplicit false
set_option linter.unusedVariables false
namespace Mine
open PySem PySem.Calls

abbrev TR : Bool → Bool → List Addr → Store → Heap → Prop := fun a b _ _ _ => a = b
noncomputable def trR (r : Res V) : Res Bool := r.bind fun v σ => lift (truthy σ v) σ

section
variable {Z : Cx} {P : Nat → Option Fn} {gn : Nat → Str} {G : Nat → Option PyData} {cf : Nat → List V → Store → Res V} {d : Nat}

noncomputable def Both (Z : Cx) (A : Around) (env : Env) (ex : Expr) (r : Res V) (β : List Addr) (σ : Store) (s : Shared) : Prop :=
  Ev Z noO A (eval ex env) r VR β σ s ∧ Ev Z noO A (isTrue ex env (eval ex env)) (trR r) TR β σ s

noncomputable def PE (Z : Cx) (P : Nat → Option Fn) (gn : Nat → Str) (G : Nat → Option PyData) (cf : Nat → List V → Store → Res V) (d : Nat) (e : E) : Prop :=
  ∀ ks sc ex env ρ A β σ s, mE P gn ks sc e ex = true → AOk d A → FrameOk Z env ks sc ρ β σ s.heap → Inv Z β σ s.heap → Both Z A env ex (evalE G cf e ρ σ) β σ s
noncomputable def PEL (Z : Cx) (P : Nat → Option Fn) (gn : Nat → Str) (G : Nat → Option PyData) (cf : Nat → List V → Store → Res V) (d : Nat) (es : EL) : Prop :=
  (∀ ks sc xs env ρ A β σ s, mEL P gn ks sc es xs = true → AOk d A → FrameOk Z env ks sc ρ β σ s.heap → Inv Z β σ s.heap → Ev Z noO A (spliced (starEach xs env)) (evalEL G cf es ρ σ) VRs β σ s) ∧
  (∀ k pos ks sc xs env ρ A β σ s, mEL P gn ks sc es xs = true → AOk d A → FrameOk Z env ks sc ρ β σ s.heap → Inv Z β σ s.heap →
    Ev Z noO A (boolOp pos (if k then .And else .Or) (evalEach xs env)) (evalB G cf k es ρ σ) VR β σ s ∧ Ev Z noO A (allTrue (if k then .And else .Or) xs env) (trR (evalB G cf k es ρ σ)) TR β σ s)
noncomputable def PEO (Z : Cx) (P : Nat → Option Fn) (gn : Nat → Str) (G : Nat → Option PyData) (cf : Nat → List V → Store → Res V) (d : Nat) (e : EO) : Prop :=
  (∀ ks sc ex env ρ A β σ s, mEO P gn ks sc e ex = true → AOk d A → FrameOk Z env ks sc ρ β σ s.heap → Inv Z β σ s.heap → Ev Z noO A (valueOrNone (evalOpt ex env)) (evalEO G cf e ρ σ) EOR β σ s) ∧
  (∀ ks sc ex env ρ A β σ s, mEO P gn ks sc e (some ex) = true → AOk d A → FrameOk Z env ks sc ρ β σ s.heap → Inv Z β σ s.heap → ∃ e', e = .yes e' ∧ Both Z A env ex (evalE G cf e' ρ σ) β σ s)
noncomputable def PIt (Z : Cx) (P : Nat → Option Fn) (gn : Nat → Str) (G : Nat → Option PyData) (cf : Nat → List V → Store → Res V) (d : Nat) (it : It) : Prop :=
  ∀ ks sc ex env ρ A β σ s I σ₁, mIt P gn ks sc it ex = true → AOk d A → FrameOk Z env ks sc ρ β σ s.heap → Inv Z β σ s.heap → evalIt G cf it ρ σ = .ok I σ₁ →
    wpAny (model Z.prog Z.w) A (eval ex env) (fun x s₁ => wpAny (model Z.prog Z.w) A (pyIter x) (fun itv s₂ => ItPost Z A I β σ s σ₁ itv s₂) (fun _ _ => False) s₁) (fun _ _ => False) s

variable {A : Around} {env : Env} {ex : Expr} {r : Res V} {β : List Addr} {σ : Store} {s : Shared} {O : Addr → Prop}

theorem Step.toks {β' : List Addr} {σ' : Store} {s' : Shared} {tk : Nat} (S : Step O β σ s β' σ' s') : Step O β σ s β' σ' { s' with toks := tk } := ⟨S.ext, S.mono, S.keep, S.alive, S.gens, S.os⟩
theorem trR_ok {r : Res V} {b : Bool} {σ' : Store} (h : trR r = .ok b σ') : ∃ v, r = .ok v σ' ∧ truthy σ' v = some b := by
  cases r with
  | bad => cases h
  | ok v σ₁ =>
    simp only [trR, Res.bind, lift] at h
    split at h
    · rename_i b' hb; cases h; exact ⟨v, rfl, hb⟩
    · cases h

theorem trR_bind {γ : Type} (a : Res γ) (f : γ → Store → Res V) : trR (a.bind f) = a.bind fun x σ => trR (f x σ) := by cases a <;> rfl
theorem trR_lift (o : Option Bool) (σ : Store) : trR (lift (o.map fun b => V.d (.bool b)) σ) = (lift o σ).bind fun b σ => .ok b σ := by cases o <;> rfl
theorem trR_ite (t : Bool) (a b : Res V) : trR (if t then a else b) = if t then trR a else trR b := by cases t <;> rfl
theorem evalE_cmp (op : COp) (a b : E) (ρ : Fm) (σ : Store) : evalE G cf (.cmp op a b) ρ σ = (evalE G cf a ρ σ).bind fun x σ₁ => (evalE G cf b ρ σ₁).bind fun y σ₂ => lift ((cmpV op x y σ₂).map fun b => V.d (.bool b)) σ₂ := rfl
theorem evalE_cmp2 (o₁ o₂ : COp) (a b c : E) (ρ : Fm) (σ : Store) : evalE G cf (.cmp2 o₁ o₂ a b c) ρ σ = (evalE G cf a ρ σ).bind fun x σ₁ => (evalE G cf b ρ σ₁).bind fun y σ₂ => (lift (cmpV o₁ x y σ₂) σ₂).bind fun t σ₂ =>
      if t then (evalE G cf c ρ σ₂).bind fun z σ₃ => lift ((cmpV o₂ y z σ₃).map fun b => V.d (.bool b)) σ₃ else .ok (.d (.bool false)) σ₂ := rfl

theorem isTrue_plain (hp : plainT ex = true) (w : Sem Value) : isTrue ex env w = (do let v ← w; standAt ex.pos; holding [v] (PySem.truthy v)) := by
  cases ex <;> first | rfl | (rename_i op _ _; cases op <;> first | rfl | cases hp) | cases hp

theorem truth_of (Y : Sys Z) {t : Sem Value} (h : Ev Z O A t r VR β σ s) : ∀ b σ', trR r = .ok b σ' → wpAny (model Z.prog Z.w) A t (fun v s₁ => wpAny (model Z.prog Z.w) A (PySem.truthy v) (fun a s' => ∃ β', Step O β σ s β' σ' s' ∧ Inv Z β' σ' s'.heap ∧ a = b) (fun _ _ => False) s₁) (fun _ _ => False) s := by
  intro b σ' e
  obtain ⟨v, rfl, hb⟩ := trR_ok e
  refine wpAny_mono (h v σ' rfl) (fun w s₁ ⟨β₁, S, I, q⟩ => ?_) fun _ _ x => x
  exact truthy_sound Y I q hb fun tk => ⟨β₁, S.toks, I, rfl⟩

theorem Both.plain (Y : Sys Z) (hp : plainT ex = true) (h : Ev Z noO A (eval ex env) r VR β σ s) : Both Z A env ex r β σ s := by
  refine ⟨h, fun b σ' e => ?_⟩
  rw [isTrue_plain hp]
  exact wpAny_bind (wpAny_mono (truth_of Y h b σ' e) (fun v s₁ h₁ => wpAny_bind (wpAny_standAt (wpAny_holding h₁))) fun _ _ x => x)

/-! ### leaves -/
theorem lift_map {α γ : Type} {o : Option α} {f : α → γ} {σ : Store} {c : γ} {σ' : Store} (h : lift (o.map f) σ = .ok c σ') : ∃ a, o = some a ∧ c = f a ∧ σ' = σ := by
  cases o with
  | none => cases h
  | some a => cases h; exact ⟨a, rfl, rfl, rfl⟩
theorem lift_ok {α : Type} {o : Option α} {σ : Store} {c : α} {σ' : Store} (h : lift o σ = .ok c σ') : o = some c ∧ σ' = σ := by
  cases o with
  | none => cases h
  | some a => cases h; exact ⟨rfl, rfl⟩
theorem okNone (D : Wd Z P gn G cf d) : PE Z P gn G cf d .none := fun ks sc ex env ρ A β σ s hm hA F I => by
  replace hm := ob_ok hm; obtain ⟨_, h0, hm⟩ := hm
  obtain ⟨_, _, rfl⟩ := gNone_ok h0
  · exact Both.plain D.y rfl (Ev.grown I (wpAny_Constant_none ⟨fun _ _ e => e, rfl, rfl, .none⟩))
theorem okBool (D : Wd Z P gn G cf d) (b : Bool) : PE Z P gn G cf d (.bool b) := fun ks sc ex env ρ A β σ s hm hA F I => by
  replace hm := ob_ok hm; obtain ⟨c, h0, hm⟩ := hm
  obtain ⟨_, _, rfl⟩ := gBool_ok h0
  · have := eq_of_beq hm; subst this
    exact Both.plain D.y rfl (Ev.grown I (wpAny_Constant_bool ⟨fun _ _ e => e, rfl, rfl, .bool _⟩))
theorem okInt (D : Wd Z P gn G cf d) (i : Int) : PE Z P gn G cf d (.int i) := fun ks sc ex env ρ A β σ s hm hA F I => by
  replace hm := ob_ok hm; obtain ⟨c, h0, hm⟩ := hm
  obtain ⟨_, _, rfl⟩ := gInt_ok h0
  · have := of_decide_eq_true hm; subst this
    exact Both.plain D.y rfl (Ev.grown I (wpAny_Constant_int ⟨fun _ _ e => e, rfl, rfl, .int _ _⟩))
theorem goodB_ok {x : Str} (h : goodB x = true) : strGood x := by
  simp only [goodB, Bool.and_eq_true, decide_eq_true_eq] at h; exact h
theorem okStr (D : Wd Z P gn G cf d) (x : Str) : PE Z P gn G cf d (.str x) := fun ks sc ex env ρ A β σ s hm hA F I => by
  replace hm := ob_ok hm; obtain ⟨c, h0, hm⟩ := hm
  obtain ⟨_, _, rfl⟩ := gStr_ok h0
  · simp only [Bool.and_eq_true, decide_eq_true_eq] at hm
    obtain ⟨rfl, hg⟩ := hm
    exact Both.plain D.y rfl (Ev.grown I (wpAny_Constant_str ⟨fun _ _ e => e, rfl, rfl, .str _ _ (goodB_ok hg)⟩))
theorem nameOk_ok {x : Str} (h : nameOk x = true) : (x == ("__debug__" : Str)) = false ∧ (x == ("__classdict__" : Str)) = false := by
  simpa only [nameOk, Bool.and_eq_true, Bool.not_eq_true'] using h
theorem okVar (D : Wd Z P gn G cf d) (i : Nat) : PE Z P gn G cf d (.var i) := fun ks sc ex env ρ A β σ s hm hA F I => by
  replace hm := ob_ok hm; obtain ⟨x, h0, hm⟩ := hm
  obtain ⟨pos, rfl⟩ := gName_ok h0
  · skip
    simp only [Bool.and_eq_true, decide_eq_true_eq] at hm
    refine Both.plain D.y rfl fun c σ' e => ?_
    rw [eE_var] at e
    obtain ⟨hv, hu, rfl⟩ := look_ok e
    exact wpAny_Name (F.load hm.1 hv (fun q => hu q) fun w hw => ⟨β, Step.refl, I, hw⟩) (nameOk_ok hm.2).1

theorem isG_ok {ks : List (Str × NameKind)} {sc : List (Str × Nat)} {ρ : Fm} {h : Heap} {x : Str} (F : FrameOk Z env ks sc ρ β σ h) (hg : isG ks x = true) : env.kindOf x = some .globalImplicit ∧ (x == ("__debug__" : Str)) = false := by
  simp only [isG, Bool.and_eq_true, decide_eq_true_eq] at hg
  refine ⟨?_, (nameOk_ok hg.2).1⟩
  rcases F.kinds x _ hg.1 with h | ⟨h, _⟩
  · exact h
  · cases h
theorem load_mg {ks : List (Str × NameKind)} {sc : List (Str × Nat)} {ρ : Fm} {x : Str} {pos : Pos} {v : Value} {Q : Value → Shared → Prop} {E : Value → Shared → Prop} (D : Wd Z P gn G cf d) (F : FrameOk Z env ks sc ρ β σ s.heap) (I : Inv Z β σ s.heap) (hg : isG ks x = true) (hv : Z.mg x = some v) (q : Q v s) :
    wpAny (model Z.prog Z.w) A (eval (.Name x pos) env) Q E s := by
  obtain ⟨h1, h2⟩ := isG_ok F hg
  obtain ⟨k1, k2, k3⟩ := D.w.keeps I
  exact Name_function_global F.kind h1 (loadGlobal_global (by rw [F.globals]; exact k1) hv q) h2
theorem load_mb {ks : List (Str × NameKind)} {sc : List (Str × Nat)} {ρ : Fm} {x : Str} {pos : Pos} {v : Value} {Q : Value → Shared → Prop} {E : Value → Shared → Prop} (D : Wd Z P gn G cf d) (F : FrameOk Z env ks sc ρ β σ s.heap) (I : Inv Z β σ s.heap) (hg : isG ks x = true) (hn : Z.mg x = none) (hv : Z.mb x = some v) (q : Q v s) :
    wpAny (model Z.prog Z.w) A (eval (.Name x pos) env) Q E s := by
  obtain ⟨h1, h2⟩ := isG_ok F hg
  obtain ⟨k1, k2, k3⟩ := D.w.keeps I
  exact Name_function_global F.kind h1 (loadGlobal_builtin (by rw [F.globals]; exact k1) hn (by rw [F.builtins]; exact k2) hv q) h2
theorem okGlob (D : Wd Z P gn G cf d) (g : Nat) : PE Z P gn G cf d (.glob g) := fun ks sc ex env ρ A β σ s hm hA F I => by
  replace hm := ob_ok hm; obtain ⟨x, h0, hm⟩ := hm
  obtain ⟨pos, rfl⟩ := gName_ok h0
  · skip
    simp only [Bool.and_eq_true, decide_eq_true_eq] at hm
    obtain ⟨rfl, hg⟩ := hm
    refine Both.plain D.y rfl fun c σ' e => ?_
    rw [eE_glob] at e
    obtain ⟨x, hx, rfl, rfl⟩ := lift_map e
    obtain ⟨w, h1, h2⟩ := D.g g x hx
    exact load_mg D F I hg h1 ⟨β, Step.refl, I, h2 _ _⟩

/-! ### operators -/
theorem Ev.operate {t : Sem Value} {vs : List Value} {r : Res V} {R : Value → V → List Addr → Store → Heap → Prop} (h : Ev Z O A t r R β σ s) : Ev Z O A (operate vs t) r R β σ s := fun c σ' e => wpAny_operating (h c σ' e)
theorem okBin (D : Wd Z P gn G cf d) {op : BOp} {m : Bool} {a b : E} (ha : PE Z P gn G cf d a) (hb : PE Z P gn G cf d b) : PE Z P gn G cf d (.bin op m a b) := fun ks sc ex env ρ A β σ s hm hA F I => by
  replace hm := ob_ok hm; obtain ⟨⟨l, o, r⟩, h0, hm⟩ := hm
  obtain ⟨pos, rfl⟩ := gBin_ok h0
  · skip
    simp only [Bool.and_eq_true, decide_eq_true_eq] at hm
    obtain ⟨⟨rfl, h1⟩, h2⟩ := hm
    refine Both.plain D.y rfl ?_
    rw [arm_eval_BinOp]
    rw [eE_bin]
    refine Ev.bind (ha ks sc l env ρ A β σ s h1 hA F I).1 fun v x β₁ σ₁ s₁ S₁ I₁ rx _ => ?_
    refine Ev.bind (Ev.holding (hb ks sc r env ρ A β₁ σ₁ s₁ h2 hA (F.step S₁) I₁).1) fun u y β₂ σ₂ s₂ S₂ I₂ ry _ => ?_
    exact Ev.standAt (Ev.operate (binV_sound I₂ (S₂.vrel0 rx) ry))
theorem okNeg (D : Wd Z P gn G cf d) {a : E} (ha : PE Z P gn G cf d a) : PE Z P gn G cf d (.neg a) := fun ks sc ex env ρ A β σ s hm hA F I => by
  replace hm := ob_ok hm; obtain ⟨x, h0, hm⟩ := hm
  obtain ⟨pos, rfl⟩ := gNeg_ok h0
  · skip
    refine Both.plain D.y rfl ?_
    rw [arm_eval_UnaryOp]
    rw [eE_neg]
    refine Ev.bind (ha ks sc x env ρ A β σ s hm hA F I).1 fun v x β₁ σ₁ s₁ S₁ I₁ rx _ => ?_
    refine Ev.standAt (Ev.holding ?_)
    refine oc_sound (fun i hi => ?_) Ev.bad
    rw [intV_ok hi] at rx
    obtain ⟨t, rfl⟩ := vint rx
    exact ev_flat I₁ (PyProof.Rows.neg_int ⟨⟨_, _, rfl⟩, .int _ _⟩)
theorem okNot (D : Wd Z P gn G cf d) {a : E} (ha : PE Z P gn G cf d a) : PE Z P gn G cf d (.not a) := fun ks sc ex env ρ A β σ s hm hA F I => by
  replace hm := ob_ok hm; obtain ⟨x, h0, hm⟩ := hm
  obtain ⟨pos, rfl⟩ := gNot_ok h0
  · skip
    have hx := ha ks sc x env ρ A β σ s hm hA F I
    constructor
    · rw [arm_eval_UnaryOp]
      rw [eE_not]
      refine Ev.bind hx.1 fun v x β₁ σ₁ s₁ S₁ I₁ rx _ => ?_
      refine Ev.standAt (Ev.holding fun c σ' e => ?_)
      obtain ⟨b, hb, rfl, rfl⟩ := lift_map e
      exact not_value (truthy_sound D.y I₁ rx hb fun tk => ⟨β₁, Step.refl.toks, I₁, .bool _⟩)
    · intro c σ' e
      refine wpAny_isTrue_Not ?_
      rw [eE_not] at e
      obtain ⟨v, e, hc⟩ := trR_ok e
      cases h : evalE G cf a ρ σ with
      | bad => rw [h] at e; cases e
      | ok w σ₁ =>
        rw [h] at e
        obtain ⟨b, hb, rfl, rfl⟩ := lift_map e
        cases hc
        refine wpAny_mono (hx.2 b σ' (by rw [h]; simp [trR, Res.bind, lift, hb])) (fun a s' ⟨β', S, I', q⟩ => ⟨β', S, I', by rw [q]⟩) fun _ _ x => x
theorem okIte (D : Wd Z P gn G cf d) {c a b : E} (hc : PE Z P gn G cf d c) (ha : PE Z P gn G cf d a) (hb : PE Z P gn G cf d b) : PE Z P gn G cf d (.ite c a b) := fun ks sc ex env ρ A β σ s hm hA F I => by
  replace hm := ob_ok hm; obtain ⟨⟨t, x, y⟩, h0, hm⟩ := hm
  obtain ⟨pos, rfl⟩ := gIf_ok h0
  · skip
    simp only [Bool.and_eq_true] at hm
    obtain ⟨⟨h1, h2⟩, h3⟩ := hm
    have ht := (hc ks sc t env ρ A β σ s h1 hA F I).2
    have ev : evalE G cf (.ite c a b) ρ σ = (trR (evalE G cf c ρ σ)).bind fun t σ₁ => if t then evalE G cf a ρ σ₁ else evalE G cf b ρ σ₁ := by
      have ev0 : evalE G cf (.ite c a b) ρ σ = (evalE G cf c ρ σ).bind (fun x σ₁ => (lift (truthy σ₁ x) σ₁).bind fun t σ₁ => if t then evalE G cf a ρ σ₁ else evalE G cf b ρ σ₁) := rfl
      rw [ev0]
      unfold trR
      cases evalE G cf c ρ σ <;> rfl
    constructor
    · rw [ev, arm_eval_IfExp]
      refine Ev.bind ht fun v w β₁ σ₁ s₁ S₁ I₁ rx _ => ?_
      cases rx
      cases v with
      | true => exact (ha ks sc x env ρ A β₁ σ₁ s₁ h2 hA (F.step S₁) I₁).1
      | false => exact (hb ks sc y env ρ A β₁ σ₁ s₁ h3 hA (F.step S₁) I₁).1
    · have ev' : trR (evalE G cf (.ite c a b) ρ σ) = (trR (evalE G cf c ρ σ)).bind fun t σ₁ => if t then trR (evalE G cf a ρ σ₁) else trR (evalE G cf b ρ σ₁) := by
        rw [ev]
        cases trR (evalE G cf c ρ σ) with
        | bad => rfl
        | ok t σ₁ => cases t <;> rfl
      rw [ev', arm_isTrue_IfExp]
      refine Ev.bind ht fun v w β₁ σ₁ s₁ S₁ I₁ rx _ => ?_
      cases rx
      cases v with
      | true => exact (ha ks sc x env ρ A β₁ σ₁ s₁ h2 hA (F.step S₁) I₁).2
      | false => exact (hb ks sc y env ρ A β₁ σ₁ s₁ h3 hA (F.step S₁) I₁).2

/-! ### comparisons -/
theorem cmp_ok (D : Wd Z P gn G cf d) {op : COp} {x y : V} {v u : Value} (hA : AOk d A) (I : Inv Z β σ s.heap) (rx : VRel β σ s.heap v x) (ry : VRel β σ s.heap u y) :
    Ev Z O A (compareOp (copOf op) v u) (lift (cmpV op x y σ) σ) (fun w b _ _ _ => w = .bool b) β σ s := fun c σ' e => by
  obtain ⟨hb, rfl⟩ := lift_ok e
  exact cmpV_sound D.y I (by have := hA.2.2; omega) rx ry hb fun tk => ⟨β, Step.refl.toks, I, rfl⟩
theorem truthy_bool_ev {b : Bool} {vs : List Value} (I : Inv Z β σ s.heap) : Ev Z O A (holding vs (PySem.truthy (.bool b))) (.ok b σ) TR β σ s := Ev.holding (Ev.done (wpAny_truthy_bool ⟨β, Step.refl, I, rfl⟩))
theorem okCmp (D : Wd Z P gn G cf d) {op : COp} {a b : E} (ha : PE Z P gn G cf d a) (hb : PE Z P gn G cf d b) : PE Z P gn G cf d (.cmp op a b) := fun ks sc ex env ρ A β σ s hm hA F I => by
  replace hm := ob_ok hm; obtain ⟨⟨l, os, rs⟩, h0, hm⟩ := hm
  obtain ⟨pos, rfl⟩ := gCmp_ok h0
  replace hm := ob_ok hm; obtain ⟨o, k1, hm⟩ := hm
  replace hm := ob_ok hm; obtain ⟨r, k2, hm⟩ := hm
  replace k1 := one_ok k1; replace k2 := one_ok k2; subst k1; subst k2
  · skip
    simp only [Bool.and_eq_true, decide_eq_true_eq, Bool.not_eq_true'] at hm
    obtain ⟨⟨⟨rfl, hk⟩, h1⟩, h2⟩ := hm
    have pre : ∀ {α γ : Type} {k : Value → Value → Sem α} {q : V → V → Store → Res γ} {R : α → γ → List Addr → Store → Heap → Prop}, (∀ v u x y β σ s, Inv Z β σ s.heap → VRel β σ s.heap v x → VRel β σ s.heap u y → Ev Z noO A (k v u) (q x y σ) R β σ s) →
        Ev Z noO A (eval l env >>= fun v => holding [v] (eval r env) >>= fun u => standAt pos >>= fun _ => k v u) ((evalE G cf a ρ σ).bind fun x σ₁ => (evalE G cf b ρ σ₁).bind fun y σ₂ => q x y σ₂) R β σ s := fun hk => by
      refine Ev.bind (ha ks sc l env ρ A β σ s h1 hA F I).1 fun v x β₁ σ₁ s₁ S₁ I₁ rx _ => ?_
      refine Ev.bind (Ev.holding (hb ks sc r env ρ A β₁ σ₁ s₁ h2 hA (F.step S₁) I₁).1) fun u y β₂ σ₂ s₂ S₂ I₂ ry _ => ?_
      exact Ev.standAt (hk v u x y β₂ σ₂ s₂ I₂ (S₂.vrel0 rx) ry)
    constructor
    · have e1 : eval (.Compare l [copOf op] [r] pos) env = (eval l env >>= fun v => holding [v] (eval r env) >>= fun u => standAt pos >>= fun _ => operate [v, u] (compareOp (copOf op) v u)) := by
        rw [eval_Compare1, markedBehindIn_of_false hk]
      rw [e1]
      rw [evalE_cmp]
      refine pre fun v u x y β σ s I rx ry => Ev.operate fun c σ' e => ?_
      obtain ⟨b, hb, rfl, rfl⟩ := lift_map e
      exact wpAny_mono (cmp_ok D hA I rx ry b σ' (by rw [hb]; rfl)) (fun w s' ⟨β', S, I', q⟩ => ⟨β', S, I', by rw [q]; exact .bool _⟩) fun _ _ x => x
    · have e1 : isTrue (.Compare l [copOf op] [r] pos) env (eval (.Compare l [copOf op] [r] pos) env) = (eval l env >>= fun v => holding [v] (eval r env) >>= fun u => standAt pos >>= fun _ => operate [v, u] (compareOp (copOf op) v u) >>= fun c => holding [c] (PySem.truthy c)) := by
        rw [arm_isTrue_Compare]
        show (do testChain pos (← eval l env) [copOf op] [markedBehindIn (copOf op) r (eval r env)]) = _
        rw [markedBehindIn_of_false hk]
        rfl
      have e2 : trR (evalE G cf (.cmp op a b) ρ σ) = (evalE G cf a ρ σ).bind fun x σ₁ => (evalE G cf b ρ σ₁).bind fun y σ₂ => (lift (cmpV op x y σ₂) σ₂).bind fun b σ₂ => .ok b σ₂ := by
        rw [evalE_cmp, trR_bind]; refine congrArg _ (funext fun x => funext fun σ₁ => ?_); rw [trR_bind]; refine congrArg _ (funext fun y => funext fun σ₂ => ?_); exact trR_lift _ _
      rw [e1, e2]
      refine pre fun v u x y β σ s I rx ry => ?_
      refine Ev.bind (R := fun w b _ _ _ => w = .bool b) (fun c σ' e => wpAny_operating (cmp_ok D hA I rx ry c σ' e)) fun w b β₁ σ₁ s₁ S₁ I₁ q _ => ?_
      subst q
      exact truthy_bool_ev I₁
theorem okCmp2 (D : Wd Z P gn G cf d) {o₁ o₂ : COp} {a b c : E} (ha : PE Z P gn G cf d a) (hb : PE Z P gn G cf d b) (hc : PE Z P gn G cf d c) : PE Z P gn G cf d (.cmp2 o₁ o₂ a b c) := fun ks sc ex env ρ A β σ s hm hA F I => Bool.noConfusion (show false = true from hm)
end
end Mine

set_option autoImplicit false
set_option linter.unusedVariables false
namespace Mine
open PySem PySem.Calls

section
variable {Z : Cx} {P : Nat → Option Fn} {gn : Nat → Str} {G : Nat → Option PyData} {cf : Nat → List V → Store → Res V} {d : Nat}
variable {A : Around} {env : Env} {ex : Expr} {r : Res V} {β : List Addr} {σ : Store} {s : Shared} {O : Addr → Prop}

theorem Res.bind_ok {α γ : Type} {r : Res α} {f : α → Store → Res γ} {c : γ} {σ' : Store} (h : r.bind f = .ok c σ') : ∃ a σ₁, r = .ok a σ₁ ∧ f a σ₁ = .ok c σ' := by
  cases r with
  | bad => cases h
  | ok a σ₁ => exact ⟨a, σ₁, rfl, h⟩
theorem starEach_cons {x : Expr} (xs : List Expr) (h : notStar x = true) : starEach (x :: xs) env = (false, eval x env) :: starEach xs env := by
  cases x <;> first | rfl | cases h

theorem Ev.consVR {x : Sem Value} {rest : List (Bool × Sem Value)} {r : Res V} {k : Store → Res (List V)} (h : Ev Z noO A x r VR β σ s)
    (hk : ∀ v c β' σ' s', Step noO β σ s β' σ' s' → Inv Z β' σ' s'.heap → VRel β' σ' s'.heap v c → Ev Z noO A (spliced rest) (k σ') VRs β' σ' s') :
    Ev Z noO A (spliced ((false, x) :: rest)) (r.bind fun v σ₁ => (k σ₁).bind fun vs σ₂ => .ok (v :: vs) σ₂) VRs β σ s := fun c σ' e => by
  cases r with
  | bad => cases e
  | ok v σ₁ =>
    refine spliced_cons (wpAny_mono (h v σ₁ rfl) (fun a s₁ ⟨β₁, S₁, I₁, q₁⟩ => ?_) fun _ _ x => x)
    cases hr : k σ₁ with
    | bad => simp only [Res.bind, hr] at e; cases e
    | ok vs σ₂ =>
      simp only [Res.bind, hr] at e
      cases e
      refine wpAny_mono (hk a v β₁ σ₁ s₁ S₁ I₁ q₁ vs σ' hr) (fun as s₂ ⟨β₂, S₂, I₂, q₂⟩ => ?_) fun _ _ x => x
      exact ⟨β₂, S₁.trans S₂, I₂, .cons (S₂.vrel0 q₁) q₂⟩

theorem el_star {ks : List (Str × NameKind)} {sc : List (Str × Nat)} {pos : Pos} : ∀ {es : EL} {xs : List Expr}, mEL P gn ks sc es xs = true → backTo pos (starEach xs env) = starEach xs env ∧ (starEach xs env).any (·.1) = false
  | .nil, xs, h => by
    replace h := mEL_nil h; subst h
    exact ⟨rfl, rfl⟩
  | .cons e es, xs, h => by
    replace h := mEL_cons h; obtain ⟨x, xs, rfl, h1, h2, h3⟩ := h
    have ih := el_star (pos := pos) h3
    rw [starEach_cons _ h1]
    refine ⟨?_, ?_⟩
    · show (false, eval x env) :: backTo pos (starEach xs env) = _
      rw [ih.1]
    · simp only [List.any_cons, Bool.false_or]; exact ih.2
theorem el_length {ks : List (Str × NameKind)} {sc : List (Str × Nat)} : ∀ {es : EL} {xs : List Expr} {ρ : Fm} {σ σ' : Store} {vs : List V}, mEL P gn ks sc es xs = true → evalEL G cf es ρ σ = .ok vs σ' → vs.length = xs.length
  | .nil, xs, ρ, σ, σ', vs, h, e => by
    replace h := mEL_nil h; subst h
    rw [eL_nil] at e; cases e; rfl
  | .cons e es, xs, ρ, σ, σ', vs, h, ev => by
    replace h := mEL_cons h; obtain ⟨x, xs, rfl, _, _, h⟩ := h
    rw [eL_cons] at ev
    obtain ⟨v, σ₁, h1, ev⟩ := Res.bind_ok ev
    obtain ⟨ws, σ₂, h2, ev⟩ := Res.bind_ok ev
    cases ev
    rw [List.length_cons, List.length_cons, el_length h h2]

theorem okNil (D : Wd Z P gn G cf d) : PEL Z P gn G cf d .nil := by
  constructor
  · intro ks sc xs env ρ A β σ s hm hA F I
    replace h := mEL_nil hm; subst h
    exact Ev.pure I .nil
  · intro k pos ks sc xs env ρ A β σ s hm hA F I
    exact ⟨Ev.bad, Ev.bad⟩
theorem evalB_one (k : Bool) (e : E) (ρ : Fm) (σ : Store) : evalB G cf k (.cons e .nil) ρ σ = evalE G cf e ρ σ := rfl
theorem evalB_more (k : Bool) (e e' : E) (es : EL) (ρ : Fm) (σ : Store) : evalB G cf k (.cons e (.cons e' es)) ρ σ = (evalE G cf e ρ σ).bind fun x σ₁ => (lift (truthy σ₁ x) σ₁).bind fun t σ₁ => if t = k then evalB G cf k (.cons e' es) ρ σ₁ else .ok x σ₁ := rfl
theorem trR_more (k : Bool) (e e' : E) (es : EL) (ρ : Fm) (σ : Store) : trR (evalB G cf k (.cons e (.cons e' es)) ρ σ) = (trR (evalE G cf e ρ σ)).bind fun t σ₁ => if t = k then trR (evalB G cf k (.cons e' es) ρ σ₁) else .ok t σ₁ := by
  rw [evalB_more]
  cases evalE G cf e ρ σ with
  | bad => rfl
  | ok x σ₁ =>
    simp only [trR, Res.bind, lift]
    cases h : truthy σ₁ x with
    | none => rfl
    | some t =>
      simp only []
      by_cases hk : t = k
      · simp only [hk, if_true]
      · simp only [hk, if_false, h]

theorem okCons (D : Wd Z P gn G cf d) {e : E} {es : EL} (he : PE Z P gn G cf d e) (hes : PEL Z P gn G cf d es) : PEL Z P gn G cf d (.cons e es) := by
  constructor
  · intro ks sc xs env ρ A β σ s hm hA F I
    replace hm := mEL_cons hm; obtain ⟨x, xs, rfl, h1, h2, h3⟩ := hm
    rw [starEach_cons _ h1]
    exact Ev.consVR (k := fun σ₁ => evalEL G cf es ρ σ₁) (he ks sc x env ρ A β σ s h2 hA F I).1 fun v c β' σ' s' S I' q => hes.1 ks sc xs env ρ A β' σ' s' h3 hA (F.step S) I'
  · intro k pos ks sc xs env ρ A β σ s hm hA F I
    replace hm := mEL_cons hm; obtain ⟨x, xs, rfl, hm⟩ := hm
    · have hx := he ks sc x env ρ A β σ s hm.2.1 hA F I
      cases es with
      | nil =>
        have hxs := mEL_nil hm.2.2
        subst hxs
        · rw [evalB_one]
          refine ⟨hx.1, fun b σ' e => ?_⟩
          rw [arm_allTrue_cons]
          refine wpAny_bind (wpAny_mono (hx.2 b σ' e) (fun a s₁ ⟨β₁, S, I₁, q⟩ => ?_) fun _ _ x => x)
          subst q
          cases k <;> cases a <;> exact wpAny_pure ⟨β₁, S, I₁, rfl⟩
      | cons e' es' =>
        obtain ⟨x', xs', rfl, _⟩ := mEL_cons hm.2.2
        · have tail := fun β σ s F I => hes.2 k pos ks sc (x' :: xs') env ρ A β σ s hm.2.2 hA F I
          constructor
          · rw [evalB_more]
            show Ev Z noO A (do
              let v ← eval x env
              standAt pos
              let t ← holding [v] (PySem.truthy v)
              match (if k then BoolOp.And else BoolOp.Or), t with
              | .And, false | .Or, true => pure v
              | _, _ => boolOp pos (if k then .And else .Or) (evalEach (x' :: xs') env)) _ _ _ _ _
            refine Ev.bind hx.1 fun v c β₁ σ₁ s₁ S₁ I₁ rv _ => ?_
            refine Ev.standAt fun c' σ' e => ?_
            cases ht : truthy σ₁ c with
            | none => rw [ht] at e; cases e
            | some t =>
              rw [ht] at e
              simp only [lift, Res.bind] at e
              refine wpAny_bind (wpAny_holding (truthy_sound D.y I₁ rv ht fun tk => ?_))
              by_cases hk : t = k
              · rw [if_pos hk] at e
                have T := (tail β₁ σ₁ { s₁ with toks := tk } (F.step (S₁.toks (tk := tk))) I₁).1 c' σ' e
                have T' := wpAny_mono T (fun a s' ⟨β', S, I', q⟩ => (⟨β', ⟨S.ext, S.mono, S.keep, S.alive, S.gens, S.os⟩, I', q⟩ : ∃ β', Step noO β₁ σ₁ s₁ β' σ' s' ∧ Inv Z β' σ' s'.heap ∧ VR a c' β' σ' s'.heap)) fun _ _ x => x
                subst hk
                cases t <;> exact T'
              · rw [if_neg hk] at e
                cases e
                have T' : ∃ β', Step noO β₁ σ₁ s₁ β' σ₁ { s₁ with toks := tk } ∧ Inv Z β' σ₁ s₁.heap ∧ VR v c β' σ₁ s₁.heap := ⟨β₁, Step.refl.toks, I₁, rv⟩
                cases t <;> cases k <;> first | exact absurd rfl hk | exact wpAny_pure T'
          · rw [trR_more, arm_allTrue_cons]
            refine Ev.bind hx.2 fun a t β₁ σ₁ s₁ S₁ I₁ q _ => ?_
            cases q
            by_cases hk : a = k
            · rw [if_pos hk]
              have T := (tail β₁ σ₁ s₁ (F.step S₁) I₁).2
              subst hk
              cases a <;> exact T
            · rw [if_neg hk]
              cases a <;> cases k <;> first | exact absurd rfl hk | exact Ev.pure I₁ rfl
theorem okBop (D : Wd Z P gn G cf d) {k : Bool} {es : EL} (hes : PEL Z P gn G cf d es) : PE Z P gn G cf d (.bop k es) := fun ks sc ex env ρ A β σ s hm hA F I => by
  replace hm := ob_ok hm; obtain ⟨⟨op, xs⟩, h0, hm⟩ := hm
  obtain ⟨pos, rfl⟩ := gBop_ok h0
  simp only [Bool.and_eq_true, decide_eq_true_eq] at hm
  obtain ⟨rfl, hm⟩ := hm
  have h := hes.2 k pos ks sc xs env ρ A β σ s hm hA F I
  exact ⟨h.1, h.2⟩

/-! ### displays -/
theorem mapM_pureD : ∀ {vs : List V} {l : List PyData} {ws : List Value} {h : Heap}, vs.mapM pureD = some l → VRels β σ h ws vs → RelAll (TT β σ) h ws l
  | [], l, ws, h, e, r => by
    simp at e; subst e; cases r; exact .nil
  | v :: vs, l, ws, h, e, r => by
    rw [List.mapM_cons] at e
    obtain ⟨a, h1, e⟩ := Option.bind_eq_some_iff.mp e
    obtain ⟨as, h2, e⟩ := Option.bind_eq_some_iff.mp e
    cases e
    cases r with
    | cons r rs =>
      cases v with
      | d x => cases h1; exact .cons r (mapM_pureD h2 rs)
      | un => cases h1
      | loc n => cases h1
      | locs n => cases h1
noncomputable def locOf : V → Option Nat
  | .loc n => some n
  | _ => none
theorem mapM_locs : ∀ {vs : List V} {ns : List Nat} {ws : List Value} {h : Heap}, vs.mapM (fun v => match v with | .loc n => some n | _ => none) = some ns → VRels β σ h ws vs → ws.length = ns.length ∧ ∀ (k m : Nat), ns[k]? = some m → ∃ b, β[m]? = some b ∧ ws[k]? = some (.ref b)
  | [], ns, ws, h, e, r => by
    simp at e; subst e; cases r; exact ⟨rfl, fun k m e => by simp at e⟩
  | v :: vs, ns, ws, h, e, r => by
    rw [List.mapM_cons] at e
    obtain ⟨a, h1, e⟩ := Option.bind_eq_some_iff.mp e
    obtain ⟨as, h2, e⟩ := Option.bind_eq_some_iff.mp e
    cases e
    cases r with
    | cons r rs =>
      have ih := mapM_locs h2 rs
      cases v with
      | loc n =>
        cases h1
        obtain ⟨b, hb, rfl⟩ := r
        refine ⟨by simp [ih.1], fun k m e => ?_⟩
        cases k with
        | zero => simp at e; subst e; exact ⟨b, hb, rfl⟩
        | succ k => exact ih.2 k m (by simpa using e)
      | d x => cases h1
      | un => cases h1
      | locs n => cases h1

theorem vrels_length {h : Heap} : ∀ {ws : List Value} {vs : List V}, VRels β σ h ws vs → ws.length = vs.length
  | _, _, .nil => rfl
  | _, _, .cons _ rs => by simp [vrels_length rs]

theorem okTup (D : Wd Z P gn G cf d) {es : EL} (hes : PEL Z P gn G cf d es) : PE Z P gn G cf d (.tup es) := fun ks sc ex env ρ A β σ s hm hA F I => by
  replace hm := ob_ok hm; obtain ⟨xs, h0, hm⟩ := hm
  obtain ⟨k, pos, rfl⟩ := gTup_ok h0
  · skip
    simp only [Bool.and_eq_true, decide_eq_true_eq] at hm
    refine Both.plain D.y rfl ?_
    rw [arm_eval_Tuple, (el_star (pos := pos) hm.1).1]
    refine Ev.standAt ?_
    have ev : evalE G cf (.tup es) ρ σ = (evalEL G cf es ρ σ).bind fun vs σ₁ => dispT vs σ₁ := rfl
    rw [ev]
    refine Ev.bind (hes.1 ks sc xs env ρ A β σ s hm.1 hA F I) fun ws vs β₁ σ₁ s₁ S₁ I₁ rv he => ?_
    have hl := el_length hm.1 he
    have hw := vrels_length rv
    unfold dispT
    split
    · rename_i l hl'
      have q := mapM_pureD hl' rv
      have := q.length
      refine ev_mkTup I₁ (by unfold LIM; omega) (wpAny_newTuple ?_ (by unfold sizeLine; omega))
      exact ⟨_, _, 0, rfl, fresh_size _, Heap.get?_push_size _ rfl, pushed_keep _, rfl, rfl, by simpa using q⟩
    · exact Ev.bad
theorem okList (D : Wd Z P gn G cf d) {m : Bool} {es : EL} (hes : PEL Z P gn G cf d es) : PE Z P gn G cf d (.list m es) := fun ks sc ex env ρ A β σ s hm hA F I => by
  replace hm := ob_ok hm; obtain ⟨xs, h0, hm⟩ := hm
  obtain ⟨pos, rfl⟩ := gList_ok h0
  · skip
    simp only [Bool.and_eq_true, decide_eq_true_eq] at hm
    refine Both.plain D.y rfl ?_
    rw [arm_eval_List, (el_star (pos := pos) hm.1).1]
    refine Ev.standAt ?_
    have ev : evalE G cf (.list m es) ρ σ = (evalEL G cf es ρ σ).bind fun vs σ₁ => dispL m vs σ₁ := rfl
    rw [ev]
    refine Ev.bind (hes.1 ks sc xs env ρ A β σ s hm.1 hA F I) fun ws vs β₁ σ₁ s₁ S₁ I₁ rv he => ?_
    have hl := el_length hm.1 he
    have hw := vrels_length rv
    unfold dispL
    split
    · rename_i l hl'
      have q := mapM_pureD hl' rv
      have := q.length
      refine ev_mkList I₁ (by unfold LIM; omega) (wpAny_newList ?_ (by unfold sizeLine; omega))
      exact ⟨_, _, 0, rfl, fresh_size _, Heap.get?_push_size _ rfl, pushed_keep _, rfl, rfl, by simpa using q⟩
    · split
      · rename_i ns hns
        split
        · exact Ev.bad
        · obtain ⟨h1, h2⟩ := mapM_locs hns rv
          refine Ev.grown I₁ (wpAny_newList ⟨pushed_keep _, rfl, rfl, ?_⟩ (by unfold sizeLine; omega))
          refine ⟨_, _, 0, rfl, Heap.get?_push_size _ rfl, I₁.notTT (fresh_size _), ⟨by simpa using h1, by unfold LIM; omega⟩, fun k m e => ?_⟩
          obtain ⟨b, hb, hw⟩ := h2 k m e
          exact ⟨b, hb, by simpa using hw⟩
      · exact Ev.bad
theorem okDict0 (D : Wd Z P gn G cf d) : PE Z P gn G cf d .dict0 := fun ks sc ex env ρ A β σ s hm hA F I => by
  replace hm := ob_ok hm; obtain ⟨⟨a, b⟩, h0, hm⟩ := hm
  obtain ⟨pos, rfl⟩ := gDict_ok h0
  simp only [Bool.and_eq_true] at hm
  have h1 := nil_ok hm.1; have h2 := nil_ok hm.2
  subst h1; subst h2
  exact Both.plain D.y rfl (dict0_sound I)
theorem okDict1 (D : Wd Z P gn G cf d) {k : Str} {i : Int} : PE Z P gn G cf d (.dict1 k i) := fun ks sc ex env ρ A β σ s hm hA F I => Bool.noConfusion (show false = true from hm)
end
end Mine

set_option autoImplicit false
set_option linter.unusedVariables false
namespace Mine
open PySem PySem.Calls

section
variable {Z : Cx} {P : Nat → Option Fn} {gn : Nat → Str} {G : Nat → Option PyData} {cf : Nat → List V → Store → Res V} {d : Nat}
variable {A : Around} {env : Env} {ex : Expr} {r : Res V} {β : List Addr} {σ : Store} {s : Shared} {O : Addr → Prop}

theorem EOR_step {β' : List Addr} {σ' : Store} {s' : Shared} {v : Value} : ∀ {x : Option V}, Step noO β σ s β' σ' s' → EOR v x β σ s.heap → EOR v x β' σ' s'.heap
  | none, _, q => q
  | some x, S, q => S.vrel0 q
theorem okIdx (D : Wd Z P gn G cf d) {a i : E} (ha : PE Z P gn G cf d a) (hi : PE Z P gn G cf d i) : PE Z P gn G cf d (.idx a i) := fun ks sc ex env ρ A β σ s hm hA F I => by
  replace hm := ob_ok hm; obtain ⟨⟨v, x⟩, h0, hm⟩ := hm
  obtain ⟨pos, rfl⟩ := gSub_ok h0
  · skip
    simp only [Bool.and_eq_true] at hm
    refine Both.plain D.y rfl ?_
    rw [arm_eval_Subscript]
    have ev : evalE G cf (.idx a i) ρ σ = (evalE G cf a ρ σ).bind fun x σ₁ => (evalE G cf i ρ σ₁).bind fun y σ₂ => lift (idxV x y σ₂) σ₂ := rfl
    rw [ev]
    refine Ev.bind (ha ks sc v env ρ A β σ s hm.1.2 hA F I).1 fun w c β₁ σ₁ s₁ S₁ I₁ rw₁ _ => ?_
    refine Ev.bind (Ev.holding (hi ks sc x env ρ A β₁ σ₁ s₁ hm.2 hA (F.step S₁) I₁).1) fun u y β₂ σ₂ s₂ S₂ I₂ ru _ => ?_
    intro c' σ' e
    obtain ⟨hz, rfl⟩ := lift_ok e
    exact subscript_tail (idxV_sound D.y I₂ (S₂.vrel0 rw₁) ru hz fun tk w' hw => ⟨β₂, Step.refl.toks, I₂, hw⟩)
theorem okSlc (D : Wd Z P gn G cf d) {m : Bool} {a : E} {lo hi : EO} (ha : PE Z P gn G cf d a) (hl : PEO Z P gn G cf d lo) (hh : PEO Z P gn G cf d hi) : PE Z P gn G cf d (.slc m a lo hi) := fun ks sc ex env ρ A β σ s hm hA F I => by
  replace hm := ob_ok hm; obtain ⟨⟨v, x⟩, h0, hm⟩ := hm
  obtain ⟨pos, rfl⟩ := gSub_ok h0
  replace hm := ob_ok hm; obtain ⟨⟨l, h, st⟩, h1, hm⟩ := hm
  obtain ⟨p, hx⟩ := gSlc_ok h1
  have hx : x = .Slice l h st p := hx
  subst hx
  · simp only [Bool.and_eq_true] at hm
    obtain ⟨⟨⟨hs, m1⟩, m2⟩, m3⟩ := hm
    have hs := Option.isNone_iff_eq_none.mp hs
    have hs : st = none := hs
    subst hs
    have hm := And.intro (And.intro m1 m2) m3
    refine Both.plain D.y rfl ?_
    rw [arm_eval_Subscript, arm_eval_Slice]
    have ev : evalE G cf (.slc m a lo hi) ρ σ = (evalE G cf a ρ σ).bind fun x σ₁ => (evalEO G cf lo ρ σ₁).bind fun l σ₂ => (evalEO G cf hi ρ σ₂).bind fun h σ₃ => slcV m x l h σ₃ := rfl
    rw [ev]
    refine Ev.bind (ha ks sc v env ρ A β σ s hm.1.1 hA F I).1 fun w c β₁ σ₁ s₁ S₁ I₁ rw₁ _ => ?_
    have one : ∀ {α : Type} {f : Value → Sem α} {r : Res V} {R : α → V → List Addr → Store → Heap → Prop}, Ev Z noO A (do
        let l ← valueOrNone (evalOpt l env)
        let u ← holding [l] (valueOrNone (evalOpt h env))
        let i ← newFields "slice" [l, u, .none]
        f i) r R β₁ σ₁ s₁ → Ev Z noO A ((holding [w] (do
        let l ← valueOrNone (evalOpt l env)
        let u ← holding [l] (valueOrNone (evalOpt h env))
        let s ← holding [l, u] (valueOrNone (evalOpt none env))
        newFields "slice" [l, u, s])) >>= f) r R β₁ σ₁ s₁ := fun hx c σ' e => by
      intro Γ p hΓ
      have := hx c σ' e Γ p hΓ
      simp only [Sem.wp_bind', Sem.wp_holding] at this ⊢
      exact this
    refine one ?_
    refine Ev.bind (hl.1 ks sc l env ρ A β₁ σ₁ s₁ hm.1.2 hA (F.step S₁) I₁) fun vl xl β₂ σ₂ s₂ S₂ I₂ rl _ => ?_
    refine Ev.bind (Ev.holding (hh.1 ks sc h env ρ A β₂ σ₂ s₂ hm.2 hA ((F.step S₁).step S₂) I₂)) fun vu xu β₃ σ₃ s₃ S₃ I₃ ru _ => ?_
    exact slcV_sound I₃ (S₃.vrel0 (S₂.vrel0 rw₁)) (EOR_step S₃ rl) ru

theorem okNo (D : Wd Z P gn G cf d) : PEO Z P gn G cf d .no := by
  constructor
  · intro ks sc ex env ρ A β σ s hm hA F I
    have hm := Option.isNone_iff_eq_none.mp hm
    subst hm
    exact Ev.pure I rfl
  · intro ks sc ex env ρ A β σ s hm hA F I
    exact Bool.noConfusion (show false = true from hm)
theorem okYes (D : Wd Z P gn G cf d) {e : E} (he : PE Z P gn G cf d e) : PEO Z P gn G cf d (.yes e) := by
  constructor
  · intro ks sc ex env ρ A β σ s hm hA F I
    replace hm := ob_ok hm; obtain ⟨x, h0, hm⟩ := hm
    subst h0
    · intro c σ' e'
      have ev : evalEO G cf (.yes e) ρ σ = (evalE G cf e ρ σ).bind fun x σ₁ => .ok (some x) σ₁ := rfl
      rw [ev] at e'
      cases h : evalE G cf e ρ σ with
      | bad => rw [h] at e'; cases e'
      | ok v σ₁ =>
        rw [h] at e'; cases e'
        exact (he ks sc x env ρ A β σ s hm hA F I).1 v σ' h
  · intro ks sc ex env ρ A β σ s hm hA F I
    exact ⟨e, rfl, he ks sc ex env ρ A β σ s hm hA F I⟩

theorem okFreeze (D : Wd Z P gn G cf d) {e : E} (he : PE Z P gn G cf d e) : PE Z P gn G cf d (.freeze e) := fun ks sc ex env ρ A β σ s hm hA F I => by
  have hx := he ks sc ex env ρ A β σ s hm hA F I
  have ev : evalE G cf (.freeze e) ρ σ = (evalE G cf e ρ σ).bind fun x σ₁ => frz x σ₁ := rfl
  have fr : ∀ {x : V} {v : V} {σ₁ σ' : Store}, frz x σ₁ = .ok v σ' → ∃ n l, x = .loc n ∧ σ₁[n]? = some (.lst l) ∧ v = .d (.list l) ∧ σ' = σ₁.set n .gone := by
    intro x v σ₁ σ' h
    obtain ⟨n, hn, h⟩ := oc_ok h
    obtain ⟨l, hl, h⟩ := oc_ok h
    cases h
    exact ⟨n, l, locV_ok hn, lstAt_ok hl, rfl, rfl⟩
  constructor
  · intro c σ' e'
    rw [ev] at e'
    cases h : evalE G cf e ρ σ with
    | bad => rw [h] at e'; cases e'
    | ok v σ₁ =>
      rw [h] at e'
      obtain ⟨n, l, rfl, hl, rfl, rfl⟩ := fr e'
      refine wpAny_mono (hx.1 _ _ h) (fun a s' ⟨β', S, I', q⟩ => ?_) fun _ _ x => x
      obtain ⟨ad, hb, rfl⟩ := q
      have N := shutBox (O := noO) (c := .gone) I' hb hl rfl rfl
      exact ⟨β', S.trans N.1, N.2, frozen_rel I' hb hl⟩
  · intro c σ' e'
    rw [ev] at e'
    obtain ⟨w, e', hc⟩ := trR_ok e'
    cases h : evalE G cf e ρ σ with
    | bad => rw [h] at e'; cases e'
    | ok v σ₁ =>
      rw [h] at e'
      obtain ⟨n, l, rfl, hl, rfl, rfl⟩ := fr e'
      have ht : truthy σ₁ (.loc n) = some c := by
        show oc (lstAt σ₁ n) (fun l => some (!l.isEmpty)) _ = some c
        rw [lstAt_is hl]; exact hc
      refine wpAny_mono (hx.2 c σ₁ (by rw [h]; simp [trR, Res.bind, lift, ht])) (fun a s' ⟨β', S, I', q⟩ => ?_) fun _ _ x => x
      have hlt : n < β'.length := by rw [I'.len]; exact (List.getElem?_eq_some_iff.mp hl).1
      have N := shutBox (O := noO) (c := .gone) I' (List.getElem?_eq_getElem hlt) hl rfl rfl
      exact ⟨β', S.trans N.1, N.2, q⟩

/-! ### calls -/
theorem spliced_one {M : Model} {x : Sem Value} {Q : List Value → Shared → Prop} {E : Value → Shared → Prop} (h : wpAny M A (spliced [(false, x)]) Q E s) : wpAny M A x (fun v s' => Q [v] s') E s := fun Γ p hΓ => by
  have := h Γ p hΓ
  simpa only [spliced, Sem.wp_bind', Sem.wp_holding, Sem.wp_pure', Bool.false_eq_true, if_false, List.append_nil] using this
theorem call_args {args : List Expr} {es : EL} {f : Value} {ks : List (Str × NameKind)} {sc : List (Str × Nat)} {ρ : Fm} {Q : Args → Shared → Prop} (hes : PEL Z P gn G cf d es) (hm : mEL P gn ks sc es args = true) (hA : AOk d A) (F : FrameOk Z env ks sc ρ β σ s.heap) (I : Inv Z β σ s.heap)
    {vs : List V} {σ₁ : Store} (he : evalEL G cf es ρ σ = .ok vs σ₁) (q : ∀ ws β' s', Step noO β σ s β' σ₁ s' → Inv Z β' σ₁ s'.heap → VRels β' σ₁ s'.heap ws vs → Q ⟨ws, []⟩ s') :
    wpAny (model Z.prog Z.w) A (evalArgs f true (starEach args env) []) Q (fun _ _ => False) s := by
  have h := hes.1 ks sc args env ρ A β σ s hm hA F I vs σ₁ he
  have h' := wpAny_mono h (fun ws s' ⟨β', S, I', r⟩ => q ws β' s' S I' r) fun _ _ x => x
  cases args with
  | nil =>
    cases es with
    | nil =>
      rw [eL_nil] at he; cases he
      exact PyProof.Rows.evalArgs_nil3 (q [] β s Step.refl I .nil)
    | cons e es => replace hm := mEL_cons hm; obtain ⟨_, _, hx, _⟩ := hm; cases hx
  | cons x xs =>
    cases es with
    | nil => cases (mEL_nil hm)
    | cons e es =>
      replace hm := mEL_cons hm; obtain ⟨_, _, hx, hs, _⟩ := hm
      cases hx
      rw [starEach_cons _ hs] at h' ⊢
      exact evalArgs_plain h'

theorem okCall (D : Wd Z P gn G cf d) {f : Nat} {es : EL} (hes : PEL Z P gn G cf d es) : PE Z P gn G cf d (.call f es) := fun ks sc ex env ρ A β σ s hm hA F I => by
  replace hm := ob_ok hm; obtain ⟨⟨x, args⟩, h0, hm⟩ := hm
  obtain ⟨p, pos, rfl⟩ := gFun_ok h0
  · simp only [Bool.and_eq_true, decide_eq_true_eq] at hm
    obtain ⟨⟨h1, h2⟩, h3⟩ := hm
    obtain ⟨fn, hf, rfl⟩ := Option.map_eq_some_iff.mp h1
    obtain ⟨a, o, fd, hg, ho, hd, hcall⟩ := D.c f fn hf
    refine Both.plain D.y rfl fun c σ' e => ?_
    obtain ⟨vs, σ₁, he, hc⟩ := Res.bind_ok (r := evalEL G cf es ρ σ) (f := fun vs σ₁ => cf f vs σ₁) e
    refine PyProof.Rows.Call_Name (el_star (pos := pos) h3).1 (load_mg D F I h2 hg ?_)
    refine callWith_function (o := o) (fd := fd) (call_args hes h3 hA F I he fun ws β' s' S I' r => ⟨⟨I'.base a o ho, hd⟩, ?_⟩)
    refine wpAny_mono (hcall A β' σ₁ s' ws vs hA I' r c σ' hc) (fun v s'' ⟨β'', S', I'', q⟩ => ⟨β'', S.trans S', I'', q⟩) fun _ _ x => x

theorem isTrue_call {f : Expr} {args : List Expr} {pos : Pos} : plainT (.Call f args [] pos) = true := rfl

theorem okBi (D : Wd Z P gn G cf d) {b : Bi} {m : Bool} {es : EL} (hes : PEL Z P gn G cf d es) : PE Z P gn G cf d (.bi b m es) := fun ks sc ex env ρ A β σ s hm hA F I => by
  replace hm := ob_ok hm; obtain ⟨⟨x, args⟩, h0, hm⟩ := hm
  obtain ⟨p, pos, rfl⟩ := gFun_ok h0
  · simp only [Bool.and_eq_true, decide_eq_true_eq] at hm
    obtain ⟨⟨rfl, h2⟩, h3⟩ := hm
    refine Both.plain D.y rfl fun c σ' e => ?_
    obtain ⟨vs, σ₁, he, hc⟩ := Res.bind_ok (r := evalEL G cf es ρ σ) (f := fun vs σ₁ => biV b m vs σ₁) e
    obtain ⟨hfree, hval⟩ := D.b.free b
    have fin : ∀ {ws : List Value} {β' : List Addr} {s' : Shared}, Step noO β σ s β' σ₁ s' → Inv Z β' σ₁ s'.heap → VRels β' σ₁ s'.heap ws vs →
        wpAny (model Z.prog Z.w) A (call (biVal b) (ws ++ biRest b)) (fun v s'' => ∃ β'', Step noO β σ s β'' σ' s'' ∧ Inv Z β'' σ' s''.heap ∧ VR v c β'' σ' s''.heap) (fun _ _ => False) s' := fun S I' r =>
      wpAny_mono (biV_sound (O := noO) (m := m) D.y I' hA.1 (by have := hA.2.2; omega) r c σ' hc) (fun v s'' ⟨β'', S', I'', q⟩ => ⟨β'', S.trans S', I'', q⟩) fun _ _ x => x
    split at h3
    · rename_i t ht
      replace ht := bTy_ok ht; subst ht
      replace h3 := ob_ok h3; obtain ⟨⟨y, zn⟩, h5, h3⟩ := h3
      replace h3 := ob_ok h3; obtain ⟨z, h6, h3⟩ := h3
      replace h5 := two_ok h5; subst h5
      obtain ⟨pz, h6⟩ := gName_ok h6
      have h6 : zn = .Name z pz := h6
      subst h6
      simp only [Bool.and_eq_true, decide_eq_true_eq] at h3
      obtain ⟨⟨rfl, hz⟩, h3⟩ := h3
      have hst := el_star (env := env) (pos := pos) h3
      cases es with
      | nil => cases (mEL_nil h3)
      | cons e' es' =>
        obtain ⟨_, _, hx, hs, _⟩ := mEL_cons h3
        cases hx
        have trees : backTo pos (starEach [y, .Name (tyStr t) pz] env) = [(false, eval y env), (false, eval (.Name (tyStr t) pz) env)] := by
          rw [starEach_cons _ hs]; rfl
        refine PyProof.Rows.Call_Name trees (load_mb D F I h2 hfree (hval (.inr ⟨t, rfl⟩)) ?_)
        refine callWith_builtin rfl (evalArgs_plain (spliced_cons ?_))
        have h := hes.1 ks sc [y] env ρ A β σ s h3 hA F I vs σ₁ he
        rw [starEach_cons _ hs] at h
        refine wpAny_mono (spliced_one h) (fun v s₁ ⟨β₁, S₁, I₁, r⟩ => ?_) fun _ _ x => x
        refine spliced_cons (load_mb D (F.step S₁) I₁ hz (D.b.ty t).1 (D.b.ty t).2 (spliced_nil ?_))
        exact fin S₁ I₁ r
    · simp only [Bool.and_eq_true] at h3
      refine PyProof.Rows.Call_Name (el_star (pos := pos) h3.2).1 (load_mb D F I h2 hfree (hval (.inl h3.1)) ?_)
      have hr : biRest b = [] := by cases b <;> first | rfl | (have := h3.1; cases this)
      have post : ∀ {f : Value}, wpAny (model Z.prog Z.w) A (evalArgs f true (starEach args env) []) (fun a s₁ => wpAny (model Z.prog Z.w) A (call (biVal b) ([] ++ a.pos) a.kw) (fun v s'' => ∃ β'', Step noO β σ s β'' σ' s'' ∧ Inv Z β'' σ' s''.heap ∧ VR v c β'' σ' s''.heap) (fun _ _ => False) s₁) (fun _ _ => False) s := fun {f} =>
        call_args hes h3.2 hA F I he fun ws β' s' S I' r => by
          have := fin S I' r
          rw [hr, List.append_nil] at this
          exact this
      have hpl := (el_star (env := env) (pos := pos) h3.2).2
      cases b <;> first
        | exact callWith_builtin hpl post
        | exact PyProof.Rows.callWith_type hpl post
        | (have := h3.1; cases this)

theorem attrBase_plain {o : Expr} (h : notCall o = true) (nm : Str) (w : Sem Value) : attributeBase o nm env w = w := by
  cases o <;> first | rfl | cases h
theorem okMeth (D : Wd Z P gn G cf d) {b : Me} {o : E} {es : EL} (ho : PE Z P gn G cf d o) (hes : PEL Z P gn G cf d es) : PE Z P gn G cf d (.meth b o es) := fun ks sc ex env ρ A β σ s hm hA F I => by
  replace hm := ob_ok hm; obtain ⟨⟨ov, nm, apos, args, pos⟩, h0, hm⟩ := hm
  replace h0 := gMeth_ok h0; subst h0
  · simp only [Bool.and_eq_true, decide_eq_true_eq] at hm
    obtain ⟨⟨⟨⟨⟨⟨rfl, hdn⟩, hnc⟩, hlen⟩, hpos⟩, h1⟩, h2⟩ := hm
    refine Both.plain D.y rfl fun c σ' e => ?_
    obtain ⟨x, σ₁, he, e⟩ := Res.bind_ok (r := evalE G cf o ρ σ) (f := fun x σ₁ => if meOk b σ₁ x then (evalEL G cf es ρ σ₁).bind fun vs σ₂ => meV b x vs σ₂ else .bad) e
    split at e
    · rename_i hok
      obtain ⟨vs, σ₂, he2, hc⟩ := Res.bind_ok e
      have hst := el_star (env := env) (pos := pos) h2
      have hform : methodCallForm (args.length + 0) (starEach args env) [] = true := by
        unfold methodCallForm
        have h3 : (starEach args env).all (fun x => !x.1) = true := by
          have := hst.2
          simp only [List.any_eq_false] at this
          simp only [List.all_eq_true, Bool.not_eq_true']
          intro x hx
          simpa using this x hx
        rw [h3]
        simp
        omega
      rw [arm_eval_Call, attrBase_plain hnc, hst.1]
      refine wpAny_bind (wpAny_mono ((ho ks sc ov env ρ A β σ s h1 hA F I).1 x σ₁ he) (fun v s₁ ⟨β₁, S₁, I₁, rv⟩ => ?_) fun _ _ x => x)
      refine wpAny_bind (wpAny_standAt ?_)
      show wpAny _ _ (methodCall ov (meName b) apos pos env v (args.length + 0) (starEach args env) []) _ _ _
      unfold methodCall
      rw [hform]
      refine wpAny_bind (wpAny_holding ?_)
      show wpAny _ _ (getMethod v (meName b) _) _ _ _
      refine meOk_sound hdn I₁ rv hok ?_
      refine wpAny_bind ?_
      have hp : methodCallPos true ov env apos pos = pure pos := by
        unfold methodCallPos
        simp [hpos]
      rw [hp]
      refine wpAny_pure (callWith_builtin hst.2 (call_args hes h2 hA (F.step S₁) I₁ he2 fun ws β₂ s₂ S₂ I₂ r => ?_))
      refine wpAny_mono (meV_sound (O := noO) D.y I₂ (S₂.vrel0 rv) r c σ' hc) (fun v s'' ⟨β'', S', I'', q⟩ => ⟨β'', (S₁.trans S₂).trans S', I'', q⟩) fun _ _ x => x
    · cases e
end
end Mine

set_option autoImplicit false
set_option linter.unusedVariables false
namespace Mine
open PySem PySem.Calls

section
variable {Z : Cx} {P : Nat → Option Fn} {gn : Nat → Str} {G : Nat → Option PyData} {cf : Nat → List V → Store → Res V} {d : Nat}
variable {A : Around} {env : Env} {ex : Expr} {r : Res V} {β : List Addr} {σ : Store} {s : Shared} {O : Addr → Prop} {ks : List (Str × NameKind)} {sc : List (Str × Nat)} {ρ : Fm}

/-! ### iterables -/
theorem ItPost.back {I : Items} {β₁ : List Addr} {σ₁ : Store} {s₁ : Shared} {it : Value} {s₂ : Shared} {σ₂ : Store} (S : Step noO β σ s β₁ σ₁ s₁) (h : ItPost Z A I β₁ σ₁ s₁ σ₂ it s₂) : ItPost Z A I β σ s σ₂ it s₂ := by
  obtain ⟨β₂, Ia, fp, P, St, rfl, S', I', hf, hn, Op, hlk, hl⟩ := h
  exact ⟨β₂, Ia, fp, P, St, rfl, S.trans S', I', S.alive Ia hf, hn, Op, hlk, hl⟩
theorem okSeq (D : Wd Z P gn G cf d) {e : E} (he : PE Z P gn G cf d e) : PIt Z P gn G cf d (.seq e) := fun ks sc ex env ρ A β σ s I σ₁ hm hA F Iv e' => by
  rw [eI_seq] at e'
  obtain ⟨x, σ₂, h1, h2⟩ := Res.bind_ok e'
  obtain ⟨⟨l, lk⟩, ho, rfl, rfl⟩ := lift_map h2
  refine wpAny_mono ((he ks sc ex env ρ A β σ s hm hA F Iv).1 x σ₁ h1) (fun v s₁ ⟨β₁, S₁, I₁, rv⟩ => ?_) fun _ _ x => x
  exact wpAny_mono (openV_sound hA.1 I₁ rv ho) (fun it s₂ h => h.back S₁) fun _ _ x => x
theorem okRange (D : Wd Z P gn G cf d) {e : E} (he : PE Z P gn G cf d e) : PIt Z P gn G cf d (.range e) := fun ks sc ex env ρ A β σ s I σ₁ hm hA F Iv e' => by
  replace hm := ob_ok hm; obtain ⟨⟨x, args⟩, h0, hm⟩ := hm
  obtain ⟨p, pos, rfl⟩ := gFun_ok h0
  replace hm := ob_ok hm; obtain ⟨a, h00, hm⟩ := hm
  replace h00 := one_ok h00; subst h00
  · simp only [Bool.and_eq_true, decide_eq_true_eq] at hm
    obtain ⟨⟨⟨rfl, hg⟩, hs⟩, hm⟩ := hm
    rw [eI_range] at e'
    obtain ⟨x, σ₂, h1, h2⟩ := Res.bind_ok e'
    obtain ⟨b, hx, hb, rfl, rfl⟩ := rangeR_ok h2
    subst hx
    · skip
      · skip
        have trees : backTo pos (starEach [a] env) = [(false, eval a env)] := by rw [starEach_cons _ hs]; rfl
        refine PyProof.Rows.Call_Name trees (load_mb D F Iv hg D.b.range.1 D.b.range.2 ?_)
        refine PyProof.Rows.callWith_type rfl (evalArgs_plain (spliced_cons (wpAny_mono ((he ks sc a env ρ A β σ s hm hA F Iv).1 _ _ h1) (fun v s₁ ⟨β₁, S₁, I₁, rv⟩ => spliced_nil ?_) fun _ _ x => x)))
        cases rv with
        | int _ t =>
          refine call_range_1 ?_
          have I₂ := I₁.grow (pushed_keep (h := s₁.heap) { cls := .type "range", data := .fields #[.int 0 s₁.toks, .int b t, .int 1 (s₁.toks + 1)] })
          have S₂ : Step noO β₁ σ₁ s₁ β₁ σ₁ { s₁ with heap := s₁.heap.push { cls := .type "range", data := .fields #[.int 0 s₁.toks, .int b t, .int 1 (s₁.toks + 1)] }, toks := s₁.toks + 1 + 1 } := Step.grow (pushed_keep _) rfl rfl
          exact wpAny_mono (range_sound (a := 0) hA.1 (by omega) hb I₂ (IsRange.new ..)) (fun it s₂ h => h.back (S₁.trans S₂)) fun _ _ x => x
theorem okRange2 (D : Wd Z P gn G cf d) {e₁ e₂ : E} (h₁ : PE Z P gn G cf d e₁) (h₂ : PE Z P gn G cf d e₂) : PIt Z P gn G cf d (.range2 e₁ e₂) := fun ks sc ex env ρ A β σ s I σ₁ hm hA F Iv e' => Bool.noConfusion (show false = true from hm)
theorem okEnum (D : Wd Z P gn G cf d) {e : E} : PIt Z P gn G cf d (.enum e) := fun ks sc ex env ρ A β σ s I σ₁ hm hA F Iv e' => by
  cases hm

/-! ### the block of a comprehension -/
theorem closure_ok {names : List (Str × NameKind)} : ∀ {acc : List (Str × Addr)}, (∀ x ∈ names, x.2 = .free → ∃ c, env.cells.lookup x.1 = some c) → (∀ x c, acc.lookup x = some c → env.cells.lookup x = some c) →
    ∃ cl, (forIn names acc fun (x : Str × NameKind) (cs : List (Str × Addr)) => (if (x.2 == .free) = true then do let c ← cellOf env x.1; pure (ForInStep.yield ((x.1, c) :: cs)) else pure (ForInStep.yield cs) : Sem (ForInStep (List (Str × Addr))))) = (pure cl : Sem (List (Str × Addr))) ∧ (∀ x c, cl.lookup x = some c → env.cells.lookup x = some c) ∧
      (∀ x, (x, NameKind.free) ∈ names ∨ (acc.lookup x).isSome = true → (cl.lookup x).isSome = true) ∧ (∀ x, (cl.lookup x).isSome = true → (x, NameKind.free) ∈ names ∨ (acc.lookup x).isSome = true) := by
  induction names with
  | nil => intro acc _ ha; exact ⟨acc, rfl, ha, fun x h => h.elim (fun q => by cases q) id, fun x h => .inr h⟩
  | cons n ns ih =>
    intro acc hn ha
    obtain ⟨n, k⟩ := n
    by_cases hk : k = .free
    · subst hk
      obtain ⟨c, hc⟩ := hn (n, .free) (List.mem_cons_self ..) rfl
      have hc : env.cells.lookup n = some c := hc
      obtain ⟨cl, h1, h2, h3, h4⟩ := ih (acc := (n, c) :: acc) (fun x hx => hn x (List.mem_cons_of_mem _ hx)) (fun x c' h => by
        rw [List.lookup_cons] at h
        split at h
        · rename_i hxn
          have := eq_of_beq hxn; subst this; cases h; exact hc
        · exact ha x c' h)
      refine ⟨cl, ?_, h2, fun x h => h3 x ?_, fun x h => ?_⟩
      · rw [List.forIn_cons]
        have : cellOf env n = pure c := by unfold cellOf; rw [hc]
        simp only [this]
        exact h1
      · rcases h with h | h
        · rcases List.mem_cons.mp h with h | h
          · cases h; right; simp [List.lookup_cons]
          · exact .inl h
        · right; rw [List.lookup_cons]; split
          · rfl
          · exact h
      · rcases h4 x h with h | h
        · exact .inl (List.mem_cons_of_mem _ h)
        · rw [List.lookup_cons] at h
          split at h
          · rename_i hxn; have := eq_of_beq hxn; subst this; exact .inl (List.mem_cons_self ..)
          · exact .inr h
    · obtain ⟨cl, h1, h2, h3, h4⟩ := ih (acc := acc) (fun x hx => hn x (List.mem_cons_of_mem _ hx)) ha
      refine ⟨cl, ?_, h2, fun x h => h3 x ?_, fun x h => ?_⟩
      · rw [List.forIn_cons]
        have : (k == NameKind.free) = false := by simpa using hk
        simp only [this, Bool.false_eq_true, if_false]
        exact h1
      · rcases h with h | h
        · rcases List.mem_cons.mp h with h | h
          · cases h; exact absurd rfl hk
          · exact .inl h
        · exact .inr h
      · exact (h4 x h).imp (List.mem_cons_of_mem _) id
theorem closureFor_ok {scope : Scope} (hn : ∀ x ∈ scope.names, x.2 = .free → ∃ c, env.cells.lookup x.1 = some c) :
    ∃ cl, closureFor scope env = pure cl ∧ (∀ x c, cl.lookup x = some c → env.cells.lookup x = some c) ∧ (∀ x, (x, NameKind.free) ∈ scope.names → (cl.lookup x).isSome = true) ∧ (∀ x, (cl.lookup x).isSome = true → (x, NameKind.free) ∈ scope.names) := by
  obtain ⟨cl, h1, h2, h3, h4⟩ := closure_ok (acc := []) hn (fun x c h => by cases h)
  refine ⟨cl, ?_, h2, fun x h => h3 x (.inl h), fun x h => (h4 x h).elim id fun q => by cases q⟩
  have e : closureFor scope env = ((forIn scope.names ([] : List (Str × Addr)) fun (x : Str × NameKind) (cs : List (Str × Addr)) => (if (x.2 == .free) = true then do let c ← cellOf env x.1; pure (ForInStep.yield ((x.1, c) :: cs)) else pure (ForInStep.yield cs) : Sem (ForInStep (List (Str × Addr))))) >>= fun cs => pure cs) := rfl
  rw [e, h1]
  rfl
end
end Mine

set_option autoImplicit false
set_option linter.unusedVariables false
namespace Mine
open PySem PySem.Calls

theorem mono0 {Z : Cx} {A : Around} {α : Type} {t : Sem α} {Q : α → Shared → Prop} {E : Value → Shared → Prop} {s : Shared} (h : wpAny (model Z.prog Z.w) A t Q (fun _ _ => False) s) : wpAny (model Z.prog Z.w) A t Q E s := wpAny_mono h (fun _ _ x => x) fun _ _ x => x.elim
theorem mono2 {Z : Cx} {A : Around} {α γ : Type} {t : Sem α} {k : α → Sem γ} {Q : α → γ → Shared → Prop} {E E' : Value → Shared → Prop} {s : Shared} (h : wpAny (model Z.prog Z.w) A t (fun x s₁ => wpAny (model Z.prog Z.w) A (k x) (Q x) (fun _ _ => False) s₁) (fun _ _ => False) s) : wpAny (model Z.prog Z.w) A t (fun x s₁ => wpAny (model Z.prog Z.w) A (k x) (Q x) E s₁) E' s := wpAny_mono h (fun _ _ x => mono0 x) fun _ _ x => x.elim
/-! ### what a loop keeps -/
structure Lp (Z : Cx) (A : Around) (O : Addr → Prop) (Ia : Addr) (fp : List Addr) (shown : List PyData) (P : Nat → Value → Prop) (St : Nat → Heap → Prop) (β₀ : List Addr) (σ₀ : Store) (s₀ : Shared) (k : Nat) (β : List Addr) (σ : Store) (s : Shared) : Prop where
  op : Opened Z A Ia fp shown P St β₀ σ₀ s₀.heap
  st0 : Step (fun x => O x ∨ x = Ia) β₀ σ₀ s₀ β σ s
  inv : Inv Z β σ s.heap
  st : St k s.heap
  nm : Ia ∉ β
  n0 : Z.h₀.get? Ia = none
  stay : ∀ b ∈ fp, b = Ia ∨ Stay β σ s.heap b
  seq : KeepSeq β₀ σ₀ s₀.heap β σ s.heap

section
variable {Z : Cx} {A : Around} {O : Addr → Prop} {Ia : Addr} {fp : List Addr} {shown : List PyData} {P : Nat → Value → Prop} {St : Nat → Heap → Prop} {β₀ : List Addr} {σ₀ : Store} {s₀ : Shared} {k : Nat} {β β' : List Addr} {σ σ' : Store} {s s' : Shared}
variable {env : Env} {ks : List (Str × NameKind)} {sc : List (Str × Nat)} {ρ : Fm}

theorem Lp.start (op : Opened Z A Ia fp shown P St β₀ σ₀ s₀.heap) (I : Inv Z β₀ σ₀ s₀.heap) (hn : Ia ∉ β₀) (h0 : Z.h₀.get? Ia = none) : Lp Z A O Ia fp shown P St β₀ σ₀ s₀ 0 β₀ σ₀ s₀ :=
  ⟨op, Step.refl, I, op.start, hn, h0, op.stay, KeepSeq.refl⟩
theorem Lp.ex (L : Lp Z A O Ia fp shown P St β₀ σ₀ s₀ k β σ s) : ∃ o, s.heap.get? Ia = some o := (L.op.noseq k _ L.st).1
theorem Lp.exAll (L : Lp Z A O Ia fp shown P St β₀ σ₀ s₀ k β σ s) : ∀ b ∈ fp, ∃ o, s.heap.get? b = some o := fun b hb => by
  rcases L.stay b hb with rfl | h
  · exact L.ex
  · exact h.ex L.inv
theorem Lp.step (L : Lp Z A O Ia fp shown P St β₀ σ₀ s₀ k β σ s) (S : Step O β σ s β' σ' s') (I' : Inv Z β' σ' s'.heap) (hO : ∀ x, O x → x ∉ β ∧ ¬ seqAt s.heap x) (hI : ¬ O Ia) : Lp Z A O Ia fp shown P St β₀ σ₀ s₀ k β' σ' s' := by
  have keepIa : ∀ o, s.heap.get? Ia = some o → s'.heap.get? Ia = some o := fun o e => S.keep Ia o e (fun z => L.nm z.tt.mem) hI
  have keep : ∀ b ∈ fp, ∀ o, s.heap.get? b = some o → s'.heap.get? b = some o := fun b hb o e => by
    rcases L.stay b hb with rfl | h
    · exact keepIa o e
    · exact (h.keep S L.inv I' hO).1 o e
  refine ⟨L.op, L.st0.trans (S.weaken fun _ => .inl), I', L.op.walks.frame k _ _ L.st keep, fun m => ?_, L.n0, fun b hb => ?_, L.seq.trans (S.relH fun x z => (hO x z).2)⟩
  · obtain ⟨e, rfl, f⟩ := S.ext
    rcases List.mem_append.mp m with m | m
    · exact L.nm m
    · obtain ⟨o, e'⟩ := L.ex
      rw [f _ m] at e'; cases e'
  · exact (L.stay b hb).imp id fun h => (h.keep S L.inv I' hO).2
/-- something of the loop's own is touched -/
theorem Lp.off {a : Addr} (L : Lp Z A O Ia fp shown P St β₀ σ₀ s₀ k β σ s) (hf : s₀.heap.get? a = none) (ha : a ∉ fp) (hai : a ≠ Ia) (I' : Inv Z β σ s'.heap) (hn : ∀ o vs n, s.heap.get? a = some o → o.data = .seq vs n → TT β σ a) (hk : ∀ b o, b ≠ a → s.heap.get? b = some o → s'.heap.get? b = some o) (hg : s'.gens = s.gens) (ho : s'.os = s.os) :
    Lp Z A O Ia fp shown P St β₀ σ₀ s₀ k β σ s' := by
  refine ⟨L.op, L.st0.tail hf hk hg ho, I', L.op.walks.frame k _ _ L.st fun b hb o e => hk b o (fun q => ha (q ▸ hb)) e, L.nm, L.n0, fun b hb => ?_, L.seq.trans fun x o vs n e d t => ⟨hk x o (fun q => t (q ▸ hn o vs n (q ▸ e) d)) e, t⟩⟩
  refine (L.stay b hb).imp id fun h => h.imp id ?_
  rintro ⟨⟨o, vs, n, e, d⟩, t⟩
  exact ⟨⟨o, vs, n, hk b o (fun q => ha (q ▸ hb)) e, d⟩, t⟩
/-- the next item -/
theorem Lp.next (L : Lp Z A O Ia fp shown P St β₀ σ₀ s₀ k β σ s) {E : Value → Shared → Prop} {Q : Option Value → Shared → Prop} (hk : k < shown.length)
    (h : ∀ v d s', Lp Z A O Ia fp shown P St β₀ σ₀ s₀ (k + 1) β σ s' → shown[k]? = some d → Rel (TT β σ) s'.heap v d → (∀ b o, b ≠ Ia → s.heap.get? b = some o → s'.heap.get? b = some o) → s'.gens = s.gens → s'.os = s.os → Q (some v) s') : wpAny (model Z.prog Z.w) A (pyNext (.ref Ia)) Q E s := by
  refine L.op.walks.item k s Q E hk L.st fun v h' tk hp st' keep => ?_
  have hk' : ∀ b o, b ≠ Ia → s.heap.get? b = some o → h'.get? b = some o := fun b o hb e => keep b o (by simpa using hb) e
  have hn := (L.op.noseq k _ L.st).2
  have I' : Inv Z β σ h' := L.inv.touch L.nm L.n0 hn hk'
  have sq : KeepSeq β σ s.heap β σ h' := fun x o vs n e d t => ⟨hk' x o (fun q => hn (q ▸ ⟨o, vs, n, e, d⟩)) e, t⟩
  have L' : Lp Z A O Ia fp shown P St β₀ σ₀ s₀ (k + 1) β σ { s with heap := h', toks := tk } := by
    refine ⟨L.op, ?_, I', st', L.nm, L.n0, fun b hb => ?_, L.seq.trans sq⟩
    · obtain ⟨o, ho⟩ := (L.op.noseq _ _ st').1
      refine L.st0.trans ⟨⟨[], by simp, by simp⟩, fun k c' _ e => ⟨c', e, id, id, id⟩, fun x o e _ hx => hk' x o (fun q => hx (.inr q)) e, fun x e => ?_, rfl, rfl⟩
      by_cases q : x = Ia
      · subst q; have e : h'.get? x = none := e; rw [ho] at e; cases e
      · cases q' : s.heap.get? x with
        | none => rfl
        | some o => have e : h'.get? x = none := e; rw [hk' x o q q'] at e; cases e
    · rcases L.stay b hb with q | h
      · exact .inl q
      · by_cases q : b = Ia
        · exact .inl q
        · refine .inr (h.imp id ?_)
          rintro ⟨⟨o, vs, n, e, d⟩, t⟩
          exact ⟨⟨o, vs, n, hk' b o q e, d⟩, t⟩
  obtain ⟨d, h1, h2⟩ := L.op.items k v hk hp β σ h' (L.seq.trans sq)
  exact h v d _ L' h1 h2 hk' rfl rfl
/-- the end -/
theorem Lp.done (L : Lp Z A O Ia fp shown P St β₀ σ₀ s₀ k β σ s) {E : Value → Shared → Prop} {Q : Option Value → Shared → Prop} (hk : k = shown.length)
    (h : ∀ s', (∀ b o, b ≠ Ia → s.heap.get? b = some o → s'.heap.get? b = some o) → s'.gens = s.gens → s'.os = s.os → Q none s') : wpAny (model Z.prog Z.w) A (pyNext (.ref Ia)) Q E s := by
  subst hk
  exact L.op.walks.done s Q E L.st fun h' tk keep => h _ (fun b o hb e => keep b o (by simpa using hb) e) rfl rfl

/-! ### the frame of a comprehension's block -/
theorem lookup_relabel {names : List (Str × NameKind)} {x : Str} {k : NameKind} (h : names.lookup x = some k) :
    (names.map fun (n, k) => if (k == NameKind.free && env.scope.kind == .function && env.kindOf n == some .cell) then (n, NameKind.cell) else (n, k)).lookup x = some (if (k == NameKind.free && env.scope.kind == .function && env.kindOf x == some .cell) then .cell else k) := by
  induction names with
  | nil => cases h
  | cons a r ih =>
    obtain ⟨n, k'⟩ := a
    rw [List.lookup_cons] at h
    show List.lookup x ((if (k' == NameKind.free && env.scope.kind == .function && env.kindOf n == some .cell) = true then (n, NameKind.cell) else (n, k')) :: _) = _
    cases hx : x == n with
    | true =>
      rw [hx] at h
      cases h
      have := eq_of_beq hx; subst this
      split
      · rename_i hc; simp [List.lookup_cons]
      · rename_i hc; simp [List.lookup_cons]
    | false =>
      rw [hx] at h
      split
      · rw [List.lookup_cons, hx]; exact ih h
      · rw [List.lookup_cons, hx]; exact ih h

theorem frees_lookup {names : List (Str × NameKind)} {x : Str} {i : Nat} : ∀ {l : List (Str × NameKind)}, (∀ y ∈ l, y.2 = .free) → (l.filterMap fun x => (sc.lookup x.1).map fun i => (x.1, i)).lookup x = some i → (x, NameKind.free) ∈ l ∧ sc.lookup x = some i
  | [], _, h => by cases h
  | (n, k) :: l, hl, h => by
    have hk : k = .free := hl (n, k) (List.mem_cons_self ..)
    subst hk
    have ih := frees_lookup (names := names) (x := x) (i := i) (l := l) fun y hy => hl y (List.mem_cons_of_mem _ hy)
    rw [List.filterMap_cons] at h
    cases hs : sc.lookup n with
    | none =>
      simp only [hs, Option.map_none] at h
      exact ⟨List.mem_cons_of_mem _ (ih h).1, (ih h).2⟩
    | some j =>
      simp only [hs, Option.map_some] at h
      rw [List.lookup_cons] at h
      split at h
      · rename_i hx
        have := eq_of_beq hx; subst this
        cases h
        exact ⟨List.mem_cons_self .., hs⟩
      · exact ⟨List.mem_cons_of_mem _ (ih h).1, (ih h).2⟩
theorem nodup_inj : ∀ {l : List (Str × Nat)}, (l.map (·.2)).Nodup → ∀ {x y : Str} {i : Nat}, l.lookup x = some i → l.lookup y = some i → x = y
  | [], _, _, _, _, h, _ => by cases h
  | (n, j) :: l, hn, x, y, i, hx, hy => by
    rw [List.map_cons, List.nodup_cons] at hn
    have mem : ∀ {z : Str}, l.lookup z = some i → i ∈ l.map (·.2) := fun {z} h => by
      have : ∃ p ∈ l, p.2 = i := by
        clear hn hx hy
        induction l with
        | nil => cases h
        | cons a l ih =>
          rw [List.lookup_cons] at h
          split at h
          · cases h; exact ⟨a, List.mem_cons_self .., rfl⟩
          · obtain ⟨p, h1, h2⟩ := ih h; exact ⟨p, List.mem_cons_of_mem _ h1, h2⟩
      obtain ⟨p, h1, h2⟩ := this
      exact List.mem_map.mpr ⟨p, h1, h2⟩
    rw [List.lookup_cons] at hx hy
    split at hx
    · rename_i h1
      cases hx
      split at hy
      · rename_i h2; rw [eq_of_beq h1, eq_of_beq h2]
      · exact absurd (mem hy) hn.1
    · split at hy
      · cases hy; exact absurd (mem hx) hn.1
      · exact nodup_inj hn.2 hx hy

structure CompNames (ks : List (Str × NameKind)) (sc : List (Str × Nat)) (scope : Scope) (x₀ : Str) (i₀ : Nat) (sc' : List (Str × Nat)) : Prop where
  kind : scope.kind = .function
  loc : ∀ y ∈ scope.names, y.2 = .local → scope.names.lookup y.1 = some .local
  free : ∀ y, (y, NameKind.free) ∈ scope.names → scope.names.lookup y = some .free ∧ (ks.lookup y = some .cell ∨ ks.lookup y = some .free) ∧ (sc.lookup y).isSome = true ∧ nameOk y = true
  nocell : ∀ y ∈ scope.names, y.2 ≠ .cell
  x0 : scope.names.lookup x₀ = some .local ∧ nameOk x₀ = true
  inj : (sc'.map (·.2)).Nodup
  at0 : sc'.lookup x₀ = some i₀
  at1 : ∀ x i, sc'.lookup x = some i → (x = x₀ ∧ i = i₀) ∨ (x ≠ x₀ ∧ (x, NameKind.free) ∈ scope.names ∧ sc.lookup x = some i ∧ i ≠ i₀)

theorem compNames {scope : Scope} {x₀ : Str} {p₀ : Pos} {i₀ : Nat} (h : compOk ks sc scope (.var i₀) (.Name x₀ p₀) = true) : CompNames ks sc scope x₀ i₀ (compSc sc scope.names (.var i₀) (.Name x₀ p₀)) := by
  simp only [compOk, Bool.and_eq_true, decide_eq_true_eq] at h
  obtain ⟨⟨⟨⟨hk, hn⟩, hx⟩, hi⟩, hl⟩ := h
  have hn' := List.all_eq_true.mp hn
  have hx' : scope.names.lookup x₀ = some .local ∧ nameOk x₀ = true := by
    have := List.all_eq_true.mp hx x₀ (List.mem_cons_self (a := x₀) (l := []))
    simpa only [Bool.and_eq_true, decide_eq_true_eq] using this
  have e : compSc sc scope.names (.var i₀) (.Name x₀ p₀) = (x₀, i₀) :: (scope.names.filter fun x => decide (x.2 = .free)).filterMap fun x => (sc.lookup x.1).map fun i => (x.1, i) := rfl
  have hfr : ∀ y, (y, NameKind.free) ∈ scope.names → scope.names.lookup y = some .free ∧ (ks.lookup y = some .cell ∨ ks.lookup y = some .free) ∧ (sc.lookup y).isSome = true ∧ nameOk y = true := fun y hy => by
    have := hn' _ hy
    simp only [Bool.and_eq_true, decide_eq_true_eq] at this
    exact ⟨this.1.1.1, this.1.1.2, this.1.2, this.2⟩
  refine ⟨hk, fun y hy hl => ?_, hfr, fun y hy hc => ?_, hx', hi, ?_, fun x i hx => ?_⟩
  · have := hn' y hy
    rw [hl] at this
    simpa using this
  · have := hn' y hy
    rw [hc] at this
    cases this
  · rw [e]; simp [List.lookup_cons]
  · rw [e, List.lookup_cons] at hx
    split at hx
    · rename_i h1; cases hx; exact .inl ⟨eq_of_beq h1, rfl⟩
    · rename_i h1
      obtain ⟨h2, h3⟩ := frees_lookup (names := scope.names) (fun y hy => by have := (List.mem_filter.mp hy).2; simpa using this) hx
      have h2 := (List.mem_filter.mp h2).1
      have hne : x ≠ x₀ := fun q => by subst q; simp at h1
      refine .inr ⟨hne, h2, h3, fun q => ?_⟩
      subst q
      refine hne (nodup_inj hi (x := x) (y := x₀) (i := i) ?_ ?_)
      · rw [e, List.lookup_cons, h1]; exact hx
      · rw [e]; simp [List.lookup_cons]

theorem compFrame {scope : Scope} {x₀ : Str} {i₀ : Nat} {sc' : List (Str × Nat)} {cl : List (Str × Addr)} {C : Addr} {h h' : Heap} (N : CompNames ks sc scope x₀ i₀ sc') (F : FrameOk Z env ks sc ρ β σ h)
    (h2 : ∀ x c, cl.lookup x = some c → env.cells.lookup x = some c) (h3 : ∀ x, (x, NameKind.free) ∈ scope.names → (cl.lookup x).isSome = true) (h4 : ∀ x, (cl.lookup x).isSome = true → (x, NameKind.free) ∈ scope.names)
    (hC : h.get? C = none) (hCb : C ∉ β') (hC0 : Z.h₀.get? C = none) (hn : h'.Ns C fun _ => none) (hk : ∀ b o, h.get? b = some o → h'.get? b = some o) (hv : ∀ w v, VRel β σ h w v → VRel β' σ' h' w v) (hβ : ∀ a o, h.get? a = some o → a ∉ β → a ∉ β') :
    FrameOk Z (compEnvC scope cl C env) scope.names sc' (ρ.set i₀ .un) β' σ' h' := by
  have kd : ∀ x k, scope.names.lookup x = some k → (compEnvC scope cl C env).kindOf x = some (if (k == NameKind.free && env.scope.kind == .function && env.kindOf x == some .cell) then .cell else k) := fun x k hx => lookup_relabel hx
  have kl : (compEnvC scope cl C env).kindOf x₀ = some .local := by rw [kd x₀ .local N.x0.1]; rfl
  have kf : ∀ x, (x, NameKind.free) ∈ scope.names → (compEnvC scope cl C env).kindOf x = some .cell ∨ (compEnvC scope cl C env).kindOf x = some .free := fun x hx => by
    rw [kd x .free (N.free x hx).1]
    split
    · exact .inl rfl
    · exact .inr rfl
  refine ⟨N.kind, F.globals, F.builtins, fun x k hx => ?_, fun x i hx => ?_, fun x y i hx hy => nodup_inj N.inj hx hy, ⟨_, hn, fun x i hx hl v hv' hu => ?_⟩, fun x c hc => ?_, fun a ha => ?_, fun x y c hx hy => F.cinj x y c (h2 x c hx) (h2 y c hy), fun x hx => ?_⟩
  · rw [kd x k hx]
    split
    · rename_i hc
      simp only [Bool.and_eq_true] at hc
      exact .inr ⟨eq_of_beq hc.1.1, rfl⟩
    · exact .inl rfl
  · rcases N.at1 x i hx with ⟨rfl, rfl⟩ | ⟨_, hf, hs, _⟩
    · exact ⟨.inl kl, (nameOk_ok N.x0.2).2⟩
    · obtain ⟨c, hc⟩ := Option.isSome_iff_exists.mp (h3 x hf)
      exact ⟨.inr ⟨kf x hf, c, hc⟩, (nameOk_ok (N.free x hf).2.2.2).2⟩
  · exfalso
    rcases N.at1 x i hx with ⟨rfl, rfl⟩ | ⟨_, hf, _, _⟩
    · by_cases hlt : i < ρ.length
      · simp [hlt] at hv'; exact hu hv'.symm
      · rw [List.getElem?_eq_none (by simp; omega)] at hv'; cases hv'
    · rcases kf x hf with q | q <;> rw [hl] at q <;> cases q
  · obtain ⟨ov, ⟨o, ho, hd⟩, q⟩ := F.cell x c (h2 x c hc)
    refine ⟨ov, ⟨o, hk c o ho, hd⟩, fun i hx hk' v hv' hu => ?_⟩
    have hf := h4 x (by have hc : List.lookup x cl = some c := hc; rw [hc]; rfl)
    rcases N.at1 x i hx with ⟨rfl, rfl⟩ | ⟨_, _, hs, hne⟩
    · have := (N.free x hf).1; rw [N.x0.1] at this; cases this
    · rw [get_setV (Ne.symm hne)] at hv'
      have hkx : env.kindOf x = some .cell ∨ env.kindOf x = some .free := by
        rcases (N.free x hf).2.1 with q | q
        · exact (F.kinds x _ q).elim .inl fun z => by cases z.1
        · exact (F.kinds x _ q).elim .inr fun z => .inl z.2
      obtain ⟨w, g1, g2⟩ := q i hs hkx v hv' hu
      exact ⟨w, g1, hv _ _ g2⟩
  · rcases ha with rfl | ⟨x, hx⟩
    · exact ⟨hCb, hC0⟩
    · have hown : own env a := .inr ⟨x, h2 x a hx⟩
      obtain ⟨o, ho, _⟩ := F.ownSome hown
      exact ⟨hβ a o ho (F.apart a hown).1, (F.apart a hown).2⟩
  · have hown : own env C := .inr ⟨x, h2 x C hx⟩
    obtain ⟨o, ho, _⟩ := F.ownSome hown
    rw [hC] at ho; cases ho
end
end Mine

set_option autoImplicit false
set_option linter.unusedVariables false
namespace Mine
open PySem PySem.Calls

noncomputable def compF (G : Nat → Option PyData) (cf : Nat → List V → Store → Res V) (t : Tgt) (c : EO) (e : E) (ρ : Fm) : PyData → Store → Res (Option PyData) := fun x σ' => match bindT t x ρ with
  | none => .bad
  | some ρ' => (evalEO G cf c ρ' σ').bind fun cv σ₂ => match cv with
    | none => (evalE G cf e ρ' σ₂).bind fun y σ₃ => lift ((pureD y).map some) σ₃
    | some cv => (lift (truthy σ₂ cv) σ₂).bind fun b σ₂ => if b then (evalE G cf e ρ' σ₂).bind fun y σ₃ => lift ((pureD y).map some) σ₃ else .ok none σ₂

theorem evalE_comp (G : Nat → Option PyData) (cf : Nat → List V → Store → Res V) (m : Bool) (t : Tgt) (it : It) (c : EO) (e : E) (ρ : Fm) (σ : Store) : evalE G cf (.comp m t it c e) ρ σ = (evalIt G cf it ρ σ).bind fun I σ₁ =>
      (compL (compF G cf t c e ρ) I.shown (lockS I.lk σ₁ ++ [.busy])).bind fun r σ₂ => mkList m r ((unlockS I.lk I.base σ₂).take σ₁.length) := rfl

noncomputable def CompDone (Z : Cx) (β : List Addr) (σ : Store) (s : Shared) (v : V) (σ' : Store) (acc : Value) (C : Addr) (s' : Shared) : Prop :=
  ∃ β' mm, Step noO β σ s β' σ' s' ∧ Inv Z β' σ' s'.heap ∧ VRel β' σ' s'.heap acc v ∧ s'.heap.Ns C mm ∧ s.heap.get? C = none ∧ C ∉ β'

theorem compL_cons {f : PyData → Store → Res (Option PyData)} {l : List PyData} {k : Nat} {d : PyData} {σ σ' : Store} {r : List PyData} (hd : l[k]? = some d) (h : compL f (l.drop k) σ = .ok r σ') :
    ∃ o σ₁ r₁, f d σ = .ok o σ₁ ∧ compL f (l.drop (k + 1)) σ₁ = .ok r₁ σ' ∧ r = o.toList ++ r₁ := by
  have hlt := (List.getElem?_eq_some_iff.mp hd).1
  have hd' := (List.getElem?_eq_some_iff.mp hd).2
  rw [List.drop_eq_getElem_cons hlt, hd'] at h
  unfold compL at h
  obtain ⟨o, σ₁, h1, h2⟩ := Res.bind_ok h
  obtain ⟨r₁, σ₂, h2, h3⟩ := Res.bind_ok h2
  cases h3
  exact ⟨o, σ₁, r₁, h1, h2, rfl⟩

section
variable {Z : Cx} {P : Nat → Option Fn} {gn : Nat → Str} {G : Nat → Option PyData} {cf : Nat → List V → Store → Res V} {d : Nat}
variable {A : Around} {env : Env} {β β₁ : List Addr} {σ σ₁ : Store} {s s₂ : Shared} {ks : List (Str × NameKind)} {sc : List (Str × Nat)} {ρ : Fm}

theorem ns_noSeq {h : Heap} {a : Addr} {m : Str → Option Value} (hn : h.Ns a m) : ¬ seqAt h a := fun ⟨o, vs, n, e, d⟩ => by
  obtain ⟨o', es, ep, e', hd, _⟩ := hn
  rw [e] at e'; cases e'; rw [hd] at d; cases d

/-- an append to the list that a comprehension makes -/
theorem append_busy {a : Addr} {vs : Array Value} {n : Nat} {x : Value} {E : Value → Shared → Prop} {Q : Value → Shared → Prop} (e : s.heap.get? a = some (listO vs n)) (hz : vs.size ≤ sizeLine)
    (q : ∀ h' m, h'.get? a = some (listO (vs.push x) m) → (∀ b o, b ≠ a → s.heap.get? b = some o → h'.get? b = some o) → Q .none { s with heap := h' }) : wpAny (model Z.prog Z.w) A (call (.builtin "list.append") [.ref a, x]) Q E s := by
  refine call_meets F.slot_list_append ⟨_, e, rfl⟩ F.entry_list_append (F.args_list_append_2 _ _) (list_append a vs n x hz) ⟨e, ?_⟩
  obtain ⟨⟨m', e'⟩, hk⟩ := update_list (f := fun x_1 => x_1.push x) e
  exact q _ m' e' hk

theorem FrameOk.clear {h : Heap} (F : FrameOk Z env ks sc ρ β σ h) (i : Nat) : FrameOk Z env ks sc (ρ.set i .un) β σ h := by
  have key : ∀ {j : Nat} {v : V}, (ρ.set i .un)[j]? = some v → v ≠ .un → ρ[j]? = some v := fun {j v} h hu => by
    by_cases hij : i = j
    · subst hij
      by_cases hlt : i < ρ.length
      · simp [hlt] at h; exact absurd h.symm hu
      · rw [List.getElem?_eq_none (by simp; omega)] at h; cases h
    · rwa [get_setV hij] at h
  refine ⟨F.kind, F.globals, F.builtins, F.kinds, F.bound, F.inj, ?_, ?_, F.apart, F.cinj, F.cloc⟩
  · obtain ⟨m, N, q⟩ := F.ns
    exact ⟨m, N, fun x j h1 h2 v h3 h4 => q x j h1 h2 v (key h3 h4) h4⟩
  · intro x c e
    obtain ⟨ov, C, q⟩ := F.cell x c e
    exact ⟨ov, C, fun j h1 h2 v h3 h4 => q j h1 h2 v (key h3 h4) h4⟩
theorem Step.takeN {O : Addr → Prop} {s₁ : Shared} (a : Step O β σ s β₁ σ₁ s₁) {n : Nat} (hn : β.length ≤ n) : Step O β σ s (β₁.take n) (σ₁.take n) s₁ := by
  obtain ⟨e, rfl, f⟩ := a.ext
  refine ⟨⟨e.take (n - β.length), by rw [List.take_append, List.take_of_length_le hn], fun x hx => f x (List.mem_of_mem_take hx)⟩, fun k c' hk hc => a.mono k c' hk ?_, a.keep, a.alive, a.gens, a.os⟩
  rw [List.getElem?_take, if_pos (by omega)] at hc
  exact hc
theorem comp_core (D : Wd Z P gn G cf d) {c : EO} {e : E} (hc : PEO Z P gn G cf d c) (he : PE Z P gn G cf d e) {scope : Scope} {x₀ : Str} {p₀ : Pos} {i₀ : Nat} {sc' : List (Str × Nat)} {iter elt : Expr} {ifs : List Expr} {pos : Pos} {cl : List (Str × Addr)}
    (N : CompNames ks sc scope x₀ i₀ sc') (hmc : (match ifs with | [] => mEO P gn scope.names sc' c none | [x] => mEO P gn scope.names sc' c (some x) | _ => false) = true) (hme : mE P gn scope.names sc' e elt = true)
    (h2 : ∀ x c, cl.lookup x = some c → env.cells.lookup x = some c) (h3 : ∀ x, (x, NameKind.free) ∈ scope.names → (cl.lookup x).isSome = true) (h4 : ∀ x, (cl.lookup x).isSome = true → (x, NameKind.free) ∈ scope.names)
    (hA : AOk d A) (Iv : Inv Z β σ s.heap) {I : Items} {Ia : Addr} {fp : List Addr} {Pp : Nat → Value → Prop} {St : Nat → Heap → Prop}
    (S₁ : Step noO β σ s β₁ σ₁ s₂) (I₁ : Inv Z β₁ σ₁ s₂.heap) (hIa : s.heap.get? Ia = none) (hIb : Ia ∉ β₁) (Op : Opened Z A Ia fp I.shown Pp St β₁ (lockS I.lk σ₁) s₂.heap) (hlk : ∀ n, I.lk = some n → σ₁[n]? = some (.lst I.base)) (hlen : I.shown.length ≤ LIM)
    (F₀ : FrameOk Z env ks sc ρ β σ s.heap) {m : Bool} {r : List PyData} {σ₂ : Store} (hr : compL (compF G cf (.var i₀) c e ρ) I.shown (lockS I.lk σ₁ ++ [.busy]) = .ok r σ₂) {v : V} {σ' : Store} (hv : mkList m r ((unlockS I.lk I.base σ₂).take σ₁.length) = .ok v σ') :
    wpAny (model Z.prog Z.w) A (newList []) (fun acc s₃ => wpAny (model Z.prog Z.w) A (newFunctionEnv scope env.globals cl [] env.qual none .none (some env)) (fun cenv s₄ =>
      codeAny (model Z.prog Z.w) A (.compStart (.ListComp elt [⟨.Name x₀ p₀, iter, ifs, 0⟩] scope pos) 0 (.ref Ia) acc { cenv with scope := relabel scope env }) (fun r s' => match r with | .ok _ => CompDone Z β σ s v σ' acc cenv.locals s' | .error _ => False) s₄) (fun _ _ => False) s₃) (fun _ _ => False) s₂ := by
  have F := F₀.step S₁
  have h0 : ∀ a, s.heap.get? a = none → Z.h₀.get? a = none := fun a ha => by
    cases q : Z.h₀.get? a with
    | none => rfl
    | some o => rw [Iv.base a o q] at ha; cases ha
  have h0' : ∀ a, s₂.heap.get? a = none → s.heap.get? a = none := S₁.alive
  obtain ⟨IL, SL⟩ := lockInv I₁ hlk
  generalize hσL : lockS I.lk σ₁ = σL at *
  have hlL : σL.length = σ₁.length := by subst hσL; cases I.lk <;> simp [lockS]
  have hn0 : β₁.length = σ₁.length := I₁.len
  refine wpAny_newList ?_ (by simp)
  generalize hDd : s₂.heap.objs.size = Dd
  have hDf : s₂.heap.get? Dd = none := by rw [← hDd]; exact fresh_size _
  refine wpAny_newFunctionEnv N.nocell (by intro y hy; simp at hy) (fun h₁ hns₁ hsb₁ => ?_) N.kind
  dsimp only at hns₁ hsb₁ ⊢
  generalize hH3 : s₂.heap.push { cls := .type "list", dict := none, data := .seq ([] : List Value).toArray } = H3 at hns₁ hsb₁ ⊢
  have hk23 : ∀ b o, s₂.heap.get? b = some o → H3.get? b = some o := fun b o e => by rw [← hH3]; exact Heap.get?_push_of_some _ e
  have hD3 : H3.get? Dd = some (listO #[] 0) := by rw [← hH3, ← hDd]; exact Heap.get?_push_size _ rfl
  generalize hC : H3.objs.size = C at hns₁ hsb₁ ⊢
  have hCf3 : H3.get? C = none := by rw [← hC]; exact fresh_size _
  have hCf : s₂.heap.get? C = none := by
    cases q : s₂.heap.get? C with
    | none => rfl
    | some o => rw [hk23 _ _ q] at hCf3; cases hCf3
  have hDC : Dd ≠ C := fun q => by rw [q, hCf3] at hD3; cases hD3
  have hk34 : ∀ b o, H3.get? b = some o → h₁.get? b = some o := fun b o e => (hsb₁.2 b (fun q => by rw [q, hCf3] at e; cases e)).trans (Heap.get?_push_of_some _ e)
  have hk24 : ∀ b o, s₂.heap.get? b = some o → h₁.get? b = some o := fun b o e => hk34 b o (hk23 b o e)
  -- the state behind
  have NB := newBox (O := noO) (s := s₂) (s₁ := { s₂ with heap := h₁, toks := s₂.toks + ([] : List (Str × Value)).length }) (a := Dd) (c := .busy) IL hk24 hDf rfl rfl ⟨_, hk34 _ _ hD3⟩
  have hC4 : ∃ o, h₁.get? C = some o := by obtain ⟨o, _, _, ho, _⟩ := hns₁; exact ⟨o, ho⟩
  have hCβ : C ∉ β₁ ++ [Dd] := fun mm => by
    rcases List.mem_append.mp mm with q | q
    · exact I₁.notMem hCf q
    · simp at q; exact hDC q.symm
  have FC : FrameOk Z (compEnvC scope cl C env) scope.names sc' (ρ.set i₀ .un) (β₁ ++ [Dd]) (σL ++ [.busy]) h₁ :=
    compFrame N F h2 h3 h4 hCf hCβ (h0 C (h0' C hCf)) hns₁ hk24 (fun w v q => (SL.trans NB.1).vrel0 q) fun a o ho hb mm => by
      rcases List.mem_append.mp mm with q | q
      · exact hb q
      · simp at q; rw [q, hDf] at ho; cases ho
  have L₀ : Lp Z A noO Ia fp I.shown Pp St β₁ σL s₂ 0 (β₁ ++ [Dd]) (σL ++ [.busy]) { s₂ with heap := h₁, toks := s₂.toks + ([] : List (Str × Value)).length } :=
    (Lp.start Op IL hIb (h0 Ia hIa)).step NB.1 NB.2 (fun x z => z.elim) id
  have hfpC : C ∉ fp := fun q => by
    have := (Lp.start (O := noO) Op IL hIb (h0 Ia hIa)).exAll C q
    obtain ⟨o, ho⟩ := this; rw [hCf] at ho; cases ho
  have hIaC : C ≠ Ia := fun q => by
    obtain ⟨o, ho⟩ := (Lp.start (O := noO) Op IL hIb (h0 Ia hIa)).ex
    rw [← q, hCf] at ho; cases ho
  have hfpD : Dd ∉ fp := fun q => by
    have := (Lp.start (O := noO) Op IL hIb (h0 Ia hIa)).exAll Dd q
    obtain ⟨o, ho⟩ := this; rw [hDf] at ho; cases ho
  have hIaD : Dd ≠ Ia := fun q => by
    obtain ⟨o, ho⟩ := (Lp.start (O := noO) Op IL hIb (h0 Ia hIa)).ex
    rw [← q, hDf] at ho; cases ho
  have ownC : ∀ a, own (compEnvC scope cl C env) a → a = C ∨ ∃ o, s₂.heap.get? a = some o := fun a ha => by
    rcases ha with q | ⟨x, hx⟩
    · exact .inl q
    · obtain ⟨o, ho, _⟩ := F.ownSome (.inr ⟨x, h2 x a hx⟩)
      exact .inr ⟨o, ho⟩
  have hIaOwn : ¬ own (compEnvC scope cl C env) Ia := fun z => by
    rcases z with q | ⟨x, hx⟩
    · exact hIaC q.symm
    · obtain ⟨o, ho, _⟩ := F₀.ownSome (.inr ⟨x, h2 x Ia hx⟩)
      rw [hIa] at ho; cases ho
  have kl : (compEnvC scope cl C env).kindOf x₀ = some .local := lookup_relabel_local N.x0.1
  have hnl : ∀ n, I.lk = some n → n < σ₁.length := fun n q => (List.getElem?_eq_some_iff.mp (hlk n q)).1
  -- what a turn keeps
  let Pk : Nat → Nat → List PyData → List Addr → Store → Shared → Fm → Prop := fun k kk done βk σk s' ρ' => Lp Z A noO Ia fp I.shown Pp St β₁ σL s₂ k βk σk s' ∧ FrameOk Z (compEnvC scope cl C env) scope.names sc' ρ' βk σk s'.heap ∧
    βk[σ₁.length]? = some Dd ∧ σk[σ₁.length]? = some .busy ∧ ∃ ys mm, s'.heap.get? Dd = some (listO ys mm) ∧ RelAll (TT βk σk) s'.heap ys.toList done ∧ ys.size ≤ kk
  have pkStep : ∀ {k kk done βk σk s' ρ' βb σb sb}, Pk k kk done βk σk s' ρ' → Step noO βk σk s' βb σb sb → Inv Z βb σb sb.heap → Pk k kk done βb σb sb ρ' := by
    rintro k kk done βk σk s' ρ' βb σb sb ⟨L, Fr, db, dc, ys, mm, dh, dr, dz⟩ S Ib
    have st := Stay.keep S L.inv Ib (fun x z => z.elim) (.inl ⟨σ₁.length, db, dc⟩)
    have hlt : σ₁.length < βk.length := (List.getElem?_eq_some_iff.mp db).1
    have hltb : σ₁.length < σb.length := by rw [← Ib.len]; exact (List.getElem?_eq_some_iff.mp (S.get db)).1
    obtain ⟨c', h1, _, _, hbz⟩ := S.mono σ₁.length σb[σ₁.length] hlt (List.getElem?_eq_getElem hltb)
    rw [dc] at h1; cases h1
    exact ⟨L.step S Ib (fun x z => z.elim) id, Fr.step S, S.get db, by rw [List.getElem?_eq_getElem hltb, hbz rfl], ys, mm, st.1 _ dh, S.relAll0 dr, dz⟩
  let J : Nat → Shared → Prop := fun n s' => ∃ k βk σk done rest, n = I.shown.length + 1 - k ∧ k ≤ I.shown.length ∧ Pk k k done βk σk s' (ρ.set i₀ .un) ∧ compL (compF G cf (.var i₀) c e ρ) (I.shown.drop k) σk = .ok rest σ₂ ∧ r = done ++ rest
  have loop : ∀ s₃ : Shared, s₃ = { s₂ with heap := h₁, toks := s₂.toks + ([] : List (Str × Value)).length } →
      codeAny (model Z.prog Z.w) A (.compLoop (.ListComp elt [⟨.Name x₀ p₀, iter, ifs, 0⟩] scope pos) 0 (.ref Ia) (.ref Dd) (compEnvC scope cl C env)) (fun r s' => match r with | .ok _ => CompDone Z β σ s v σ' (.ref Dd) C s' | .error _ => False) s₃ := by
    rintro s₃ rfl
    refine codeAny_compLoop_tests J ?_ (I.shown.length + 1) ⟨0, _, _, [], r, rfl, Nat.zero_le _, ⟨L₀, FC, by rw [← hn0]; simp, by rw [← hlL]; simp, #[], 0, hk34 _ _ hD3, .nil, Nat.le_refl _⟩, by simpa using hr, rfl⟩
    rintro n s' ⟨k, βk, σk, done, rest, rfl, hkl, pk, hrest, hdone⟩
    obtain ⟨L, Fr, db, dc, ys, mm, dh, dr, dz⟩ := pk
    by_cases hlt : k < I.shown.length
    · refine L.next hlt fun w dd sa La hdd rw₁ hka hga hoa => ?_
      obtain ⟨o, σb, rest₁, hf, hrest₁, rfl⟩ := compL_cons hdd hrest
      have hnsq := (L.op.noseq k _ L.st).2
      have Fa : FrameOk Z (compEnvC scope cl C env) scope.names sc' (ρ.set i₀ .un) βk σk sa.heap := Fr.touch hIaOwn hnsq hka
      have sqa : KeepSeq βk σk s'.heap βk σk sa.heap := fun x o vs n e d t => ⟨hka x o (fun q => hnsq (q ▸ ⟨o, vs, n, e, d⟩)) e, t⟩
      refine wpAny_assign_Name (Fa.store La.inv N.at0 (v := .d dd) rw₁ fun sb Fb Sb Ib keepV keepC => ?_)
      rw [List.set_set] at Fb
      have kC := keepC kl
      have nsC : ¬ seqAt sa.heap C := Fa.notSeq C (.inl rfl)
      have Lb := La.off (a := C) hCf hfpC hIaC Ib (fun o vs n e d => absurd ⟨o, vs, n, e, d⟩ nsC) kC Sb.gens Sb.os
      have pkb : Pk (k + 1) k done βk σk sb (ρ.set i₀ (.d dd)) := ⟨Lb, Fb, db, dc, ys, mm, kC _ _ hDC (hka _ _ hIaD dh), (dr.mono sqa).mono (fun x o vs n e d t => ⟨kC x o (fun q => by have q : x = C := q; rw [q] at e; exact nsC ⟨o, vs, n, e, d⟩) e, t⟩), dz⟩
      -- the element
      have elem : ∀ {βc : List Addr} {σc : Store} {sc₁ : Shared}, Pk (k + 1) k done βc σc sc₁ (ρ.set i₀ (.d dd)) → ((evalE G cf e (ρ.set i₀ (.d dd)) σc).bind fun y σ₃ => lift ((pureD y).map some) σ₃) = .ok o σb →
          wpAny (model Z.prog Z.w) A (eval elt (compEnvC scope cl C env)) (fun x s₄ => wpAny (model Z.prog Z.w) A (call (.builtin "list.append") [.ref Dd, x]) (fun _ s₅ => ∃ m, m < I.shown.length + 1 - k ∧ J m s₅) (fun _ _ => False) s₄) (fun _ _ => False) sc₁ := by
        intro βc σc sc₁ pk h
        obtain ⟨y, σ₃, hy, hl⟩ := Res.bind_ok h
        obtain ⟨yd, hyd, rfl, rfl⟩ := lift_map hl
        have hyv : y = .d yd := by cases y <;> cases hyd; rfl
        subst hyv
        refine wpAny_mono ((he scope.names sc' elt _ _ A βc σc sc₁ hme hA pk.2.1 pk.1.inv).1 _ _ hy) (fun x s₄ ⟨βd, Sd, Id, rx⟩ => ?_) fun _ _ x => x
        obtain ⟨Ld, Fd, db', dc', ys', mm', dh', dr', dz'⟩ := pkStep pk Sd Id
        refine append_busy dh' (Nat.le_trans dz' (Nat.le_trans (Nat.le_of_lt hlt) (LIM_pos _ hlen))) fun h' m' e' hk' => ?_
        obtain ⟨Ie, sq⟩ := Ld.inv.touchBusy db' dc' hk' ⟨_, e'⟩
        have Le := Ld.off (s' := { s₄ with heap := h' }) (a := Dd) hDf hfpD hIaD Ie (fun _ _ _ _ _ => ⟨_, _, db', dc', rfl⟩) hk' rfl rfl
        have Fe : FrameOk Z (compEnvC scope cl C env) scope.names sc' (ρ.set i₀ (.d dd)) βd σb h' := Fd.seq sq fun b hb o e => hk' b o (fun q => (Fd.apart b hb).1 (q ▸ List.mem_of_getElem? db')) e
        refine ⟨I.shown.length + 1 - (k + 1), by omega, k + 1, βd, σb, done ++ [yd], rest₁, rfl, hlt, ⟨Le, ?_, db', dc', _, m', e', ?_, by simp; omega⟩, hrest₁, by rw [hdone]; simp⟩
        · have := Fe.clear i₀
          rw [List.set_set] at this
          exact this
        · have := (dr'.mono sq).append (.one (Rel.mono sq rx))
          simpa using this
      have hb1 : bindT (.var i₀) dd ρ = some (ρ.set i₀ (.d dd)) := rfl
      unfold compF at hf
      rw [hb1] at hf
      cases ifs with
      | nil =>
        have hcn : c = .no := by
          have hmc : mEO P gn scope.names sc' c none = true := hmc
          cases c with
          | no => rfl
          | yes e => exact Bool.noConfusion (show false = true from hmc)
        subst hcn
        refine wpAny_tests_nil ?_
        rw [if_pos rfl]
        exact mono2 (elem pkb hf)
      | cons x xs =>
        cases xs with
        | cons _ _ => cases hmc
        | nil =>
          have hmc : mEO P gn scope.names sc' c (some x) = true := hmc
          obtain ⟨c', rfl, B⟩ := hc.2 scope.names sc' x _ _ A βk σk sb hmc hA Fb Lb.inv
          obtain ⟨cv, σc, hcv, hf⟩ := Res.bind_ok hf
          obtain ⟨cv', σc', hcv', hq⟩ := Res.bind_ok (r := evalE G cf c' (ρ.set i₀ (.d dd)) σk) (f := fun x σ₁ => .ok (some x) σ₁) hcv
          cases hq
          obtain ⟨b, σd, hb, hf⟩ := Res.bind_ok hf
          have htr : truthy σc cv' = some b ∧ σd = σc := by
            cases hq : truthy σc cv' with
            | none => rw [hq] at hb; cases hb
            | some b' => rw [hq] at hb; cases hb; exact ⟨rfl, rfl⟩
          obtain ⟨htr, rfl⟩ := htr
          refine wpAny_tests_one (mono0 (wpAny_mono (B.2 b σd (by rw [hcv']; simp [trR, Res.bind, lift, htr])) (fun a sc₁ ⟨βc, Sc, Ic, q⟩ => ?_) fun _ _ x => x))
          subst q
          have pkc := pkStep pkb Sc Ic
          cases a with
          | true =>
            rw [if_pos rfl]
            exact mono2 (elem pkc hf)
          | false =>
            rw [if_neg (by simp)]
            have hf : Res.ok none σd = Res.ok o σb := hf
            cases hf
            obtain ⟨Lc, Fc, db', dc', ys', mm', dh', dr', dz'⟩ := pkc
            refine ⟨I.shown.length + 1 - (k + 1), by omega, k + 1, βc, σb, done, rest₁, rfl, hlt, ⟨Lc, ?_, db', dc', ys', mm', dh', dr', by omega⟩, hrest₁, by rw [hdone]; simp⟩
            have := Fc.clear i₀
            rw [List.set_set] at this
            exact this
    · have hke : k = I.shown.length := by omega
      refine L.done hke fun sz hkz hgz hoz => ?_
      subst hke
      rw [List.drop_length] at hrest
      cases hrest
      rw [List.append_nil] at hdone
      subst hdone
      obtain ⟨Sx, Ix, ttx⟩ := closeLoop S₁ I₁ hlk (hσL ▸ L.st0) L.inv (fun x z => z.elim) (Op.noseq 0 _ Op.start).2 hIa
      generalize hU : unlockS I.lk I.base σ₂ = U at *
      have hUn : U[σ₁.length]? = some .busy := by
        rw [← hU]
        cases hlk' : I.lk with
        | none => exact dc
        | some n =>
          have := hnl n hlk'
          show (σ₂.set n _)[σ₁.length]? = _
          rw [get_set_ne (by omega)]; exact dc
      have hrl : r.length ≤ LIM := by have := dr.length; simp at this; omega
      have hnβ : β.length ≤ σ₁.length := by
        obtain ⟨e, q, _⟩ := S₁.ext
        rw [← hn0, q]; simp
      obtain ⟨mC, hnC, _⟩ := Fr.ns
      have hCs : s.heap.get? C = none := h0' C hCf
      have hnsI := (L.op.noseq _ _ L.st).2
      have hCk : C ∉ βk := (Fr.apart C (.inl rfl)).1
      -- the list as data, or as a box
      have key : ∀ {βf : List Addr} {σf : Store}, (∀ x, TT βf σf x → TT βk U x ∧ True) → Step noO β σ s βf σf s' → Inv Z βf σf s'.heap → Ia ∉ βf → C ∉ βf → VRel βf σf s'.heap (.ref Dd) v → σf = σ' → CompDone Z β σ s v σ' (.ref Dd) C sz := by
        intro βf σf _ Sf If nI nC rv hσ
        subst hσ
        refine ⟨βf, mC, Sf.tail hIa hkz hgz hoz, If.touch nI (h0 Ia hIa) hnsI hkz, vrel_same hkz hnsI rv, ?_, hCs, nC⟩
        obtain ⟨o, es, ep, ho, q⟩ := hnC
        exact ⟨o, es, ep, hkz _ _ (fun q => hIaC q) ho, q⟩
      cases m with
      | false =>
        cases hv
        refine key (βf := βk.take σ₁.length) (fun x z => ⟨TT_take z, trivial⟩) (Sx.takeN hnβ) (Ix.take _) (fun q => L.nm (List.mem_of_mem_take q)) (fun q => hCk (List.mem_of_mem_take q)) ?_ rfl
        refine .list dh (fun z => ?_) hrl (dr.mono fun x o _ _ e _ t => ⟨e, fun z => t ((ttx x).mp (TT_take z))⟩)
        obtain ⟨j, c', q1, _, _⟩ := z
        rw [List.getElem?_take] at q1
        split at q1
        · rename_i hj
          exact L.inv.addr_ne db q1 (by omega) rfl
        · cases q1
      | true =>
        cases hv
        have Io := Ix.openBusy db hUn dh (dr.mono fun x o _ _ e _ t => ⟨e, fun z => t ((ttx x).mp z)⟩) hrl
        have So : Step noO β σ s βk (U.set σ₁.length (.lst r)) s' := ⟨Sx.ext, fun j c' hj hc' => by
          rw [get_set_ne (by omega)] at hc'
          exact Sx.mono j c' hj hc', Sx.keep, Sx.alive, Sx.gens, Sx.os⟩
        have hlenU : σ₁.length < U.length := (List.getElem?_eq_some_iff.mp hUn).1
        have htk : (U.take σ₁.length).length = σ₁.length := by simp; omega
        have e1 : (U.set σ₁.length (.lst r)).take (σ₁.length + 1) = U.take σ₁.length ++ [.lst r] := by
          rw [List.take_add_one]
          rw [get_set_eq hUn, List.take_set_of_le (Nat.le_refl _)]
          rfl
        refine key (βf := βk.take (σ₁.length + 1)) (σf := U.take σ₁.length ++ [.lst r]) (fun x z => ?_) (e1 ▸ So.takeN (Nat.le_succ_of_le hnβ)) (e1 ▸ Io.take _) (fun q => L.nm (List.mem_of_mem_take q)) (fun q => hCk (List.mem_of_mem_take q)) ⟨Dd, by rw [htk, List.getElem?_take, if_pos (by omega)]; exact db, rfl⟩ rfl
        rw [← e1] at z
        exact ⟨(TT_congr (c₀ := .busy) (c := .lst r) hUn rfl).mp (TT_take z), trivial⟩
  exact codeAny_compStart_list (loop _ rfl) (Op.walks.self 0 _ _ _ L₀.st (loop _ rfl))
end
end Mine

set_option autoImplicit false
set_option linter.unusedVariables false
namespace Mine
open PySem PySem.Calls

section
variable {Z : Cx} {P : Nat → Option Fn} {gn : Nat → Str} {G : Nat → Option PyData} {cf : Nat → List V → Store → Res V} {d : Nat}
variable {A : Around} {env : Env} {β β₁ : List Addr} {σ σ₁ : Store} {s s₂ : Shared} {ks : List (Str × NameKind)} {sc : List (Str × Nat)} {ρ : Fm}

theorem notSet_fold {iter : Expr} (h : notSet iter = true) (x : Value) : foldedSetIterable iter env x = pure x := by
  cases iter <;> first | rfl | cases h

/-- the parts of a matched comprehension -/
theorem comp_parts {m : Bool} {t : Tgt} {it : It} {c : EO} {e : E} {ex : Expr} (hm : mE P gn ks sc (.comp m t it c e) ex = true) :
    ∃ elt x₀ p₀ i₀ iter ifs scope pos, ex = .ListComp elt [⟨.Name x₀ p₀, iter, ifs, 0⟩] scope pos ∧ t = .var i₀ ∧ mIt P gn ks sc it iter = true ∧ notSet iter = true ∧ CompNames ks sc scope x₀ i₀ (compSc sc scope.names (.var i₀) (.Name x₀ p₀)) ∧
      (match ifs with | [] => mEO P gn scope.names (compSc sc scope.names (.var i₀) (.Name x₀ p₀)) c none | [x] => mEO P gn scope.names (compSc sc scope.names (.var i₀) (.Name x₀ p₀)) c (some x) | _ => false) = true ∧
      mE P gn scope.names (compSc sc scope.names (.var i₀) (.Name x₀ p₀)) e elt = true := by
  replace hm := ob_ok hm; obtain ⟨⟨elt, gs, scope⟩, h0, hm⟩ := hm
  obtain ⟨pos, rfl⟩ := gComp_ok h0
  replace hm := ob_ok hm; obtain ⟨⟨target, iter, ifs, as⟩, h00, hm⟩ := hm
  replace h00 := one_ok h00; subst h00
  simp only [Bool.and_eq_true, decide_eq_true_eq] at hm
  obtain ⟨⟨⟨⟨⟨⟨⟨h0', h1⟩, h2⟩, h3⟩, h4⟩, h5⟩, h5'⟩, h6⟩ := hm
  have h0' : as = 0 := h0'
  subst h0'
  obtain ⟨i₀, x₀, p₀, rfl, rfl, _⟩ := mTgt_ok h4
  refine ⟨elt, x₀, p₀, i₀, iter, ifs, scope, pos, rfl, rfl, h1, h2, compNames h3, ?_, h6⟩
  cases ifs with
  | nil => exact h5'
  | cons a l => cases l with
    | nil => exact h5'
    | cons _ _ => exact absurd h5 (by simp)

theorem comp_eval (D : Wd Z P gn G cf d) {m : Bool} {it : It} {c : EO} {e : E} (hi : PIt Z P gn G cf d it) (hc : PEO Z P gn G cf d c) (he : PE Z P gn G cf d e) {elt : Expr} {x₀ : Str} {p₀ : Pos} {i₀ : Nat} {iter : Expr} {ifs : List Expr} {scope : Scope} {pos pos' : Pos}
    (h1 : mIt P gn ks sc it iter = true) (h2 : notSet iter = true) (N : CompNames ks sc scope x₀ i₀ (compSc sc scope.names (.var i₀) (.Name x₀ p₀)))
    (h5 : (match ifs with | [] => mEO P gn scope.names (compSc sc scope.names (.var i₀) (.Name x₀ p₀)) c none | [x] => mEO P gn scope.names (compSc sc scope.names (.var i₀) (.Name x₀ p₀)) c (some x) | _ => false) = true)
    (h6 : mE P gn scope.names (compSc sc scope.names (.var i₀) (.Name x₀ p₀)) e elt = true) (hA : AOk d A) (F : FrameOk Z env ks sc ρ β σ s.heap) (I : Inv Z β σ s.heap) {v : V} {σ' : Store} (ev : evalE G cf (.comp m (.var i₀) it c e) ρ σ = .ok v σ')
    {use : Option (Value → Sem Unit)} {Q : Value → Shared → Prop} (q : ∀ acc C s', CompDone Z β σ s v σ' acc C s' → compPost (model Z.prog Z.w) A (fun _ _ => False) use Q acc C (.ok .next) s') :
    wpAny (model Z.prog Z.w) A (comprehension (.ListComp elt [⟨.Name x₀ p₀, iter, ifs, 0⟩] scope pos) scope env pos' (newList []) false (eval iter env) use) Q (fun _ _ => False) s := by
  rw [evalE_comp] at ev
  obtain ⟨It, σ₁, hit, ev⟩ := Res.bind_ok ev
  obtain ⟨r, σ₂, hr, hv⟩ := Res.bind_ok ev
  have hcells : ∀ x ∈ scope.names, x.2 = .free → ∃ c, env.cells.lookup x.1 = some c := fun x hx hf => by
    obtain ⟨n, k⟩ := x
    subst hf
    obtain ⟨_, hks, hsc, _⟩ := N.free n hx
    obtain ⟨i, hi⟩ := Option.isSome_iff_exists.mp hsc
    have hk : env.kindOf n = some .cell ∨ env.kindOf n = some .free := by
      rcases hks with q | q
      · exact (F.kinds n _ q).elim .inl fun z => by cases z.1
      · exact (F.kinds n _ q).elim .inr fun z => .inl z.2
    rcases (F.bound n i hi).1 with q | ⟨_, q⟩
    · rcases hk with z | z <;> rw [q] at z <;> cases z
    · exact q
  obtain ⟨cl, hcl, c2, c3, c4⟩ := closureFor_ok hcells
  refine wpAny_comprehension_free (use := use) rfl (fun x => notSet_fold h2 x) hcl N.kind N.loc ?_
  refine wpAny_mono (hi ks sc iter env ρ A β σ s It σ₁ h1 hA F I hit) (fun x s₁ h => wpAny_mono h (fun itv s₂ h => ?_) fun _ _ x => x) fun _ _ x => x
  obtain ⟨β₁, Ia, fp, Pp, St, rfl, S₁, I₁, hIa, hIb, Op, hlk, hlen⟩ := h
  refine wpAny_mono (comp_core D hc he N h5 h6 c2 c3 c4 hA I S₁ I₁ hIa hIb Op hlk hlen F hr hv (iter := iter) (pos := pos) (p₀ := p₀)) (fun acc s₃ h => wpAny_mono h (fun cenv s₄ h => codeAny_mono h fun r s' hr => ?_) fun _ _ x => x) fun _ _ x => x
  cases r with
  | ok f => 
    have := q acc cenv.locals s' hr
    cases use <;> exact this
  | error x => exact hr.elim

theorem okComp (D : Wd Z P gn G cf d) {m : Bool} {t : Tgt} {it : It} {c : EO} {e : E} (hi : PIt Z P gn G cf d it) (hc : PEO Z P gn G cf d c) (he : PE Z P gn G cf d e) : PE Z P gn G cf d (.comp m t it c e) := fun ks sc ex env ρ A β σ s hm hA F I => by
  obtain ⟨elt, x₀, p₀, i₀, iter, ifs, scope, pos, rfl, rfl, h1, h2, N, h5, h6⟩ := comp_parts hm
  refine Both.plain D.y rfl fun v σ' ev => ?_
  rw [arm_eval_ListComp]
  refine comp_eval D hi hc he h1 h2 N h5 h6 hA F I ev (use := none) fun acc C s' h => ?_
  obtain ⟨β', mm, S, I', rv, hn, hC, hCb⟩ := h
  refine ⟨mm, hn, fun h' hs' => ?_⟩
  have hk : ∀ b o, b ≠ C → s'.heap.get? b = some o → h'.get? b = some o := fun b o hb e => (hs'.2 b hb).trans e
  have h0 : Z.h₀.get? C = none := by
    cases q : Z.h₀.get? C with
    | none => rfl
    | some o => rw [I.base C o q] at hC; cases hC
  exact ⟨β', S.tail hC hk rfl rfl, I'.touch hCb h0 (ns_noSeq hn) hk, vrel_same hk (ns_noSeq hn) rv⟩

mutual
theorem okE (D : Wd Z P gn G cf d) : ∀ e, PE Z P gn G cf d e
  | .none => okNone D
  | .bool b => okBool D b
  | .int i => okInt D i
  | .str x => okStr D x
  | .var i => okVar D i
  | .glob g => okGlob D g
  | .bin op m a b => okBin D (okE D a) (okE D b)
  | .neg a => okNeg D (okE D a)
  | .not a => okNot D (okE D a)
  | .bop k es => okBop D (okEL D es)
  | .cmp op a b => okCmp D (okE D a) (okE D b)
  | .cmp2 o₁ o₂ a b c => okCmp2 D (okE D a) (okE D b) (okE D c)
  | .ite c a b => okIte D (okE D c) (okE D a) (okE D b)
  | .tup es => okTup D (okEL D es)
  | .list m es => okList D (okEL D es)
  | .dict0 => okDict0 D
  | .dict1 k i => okDict1 D
  | .idx a i => okIdx D (okE D a) (okE D i)
  | .slc m a lo hi => okSlc D (okE D a) (okEO D lo) (okEO D hi)
  | .comp m t it c e => okComp D (okIt D it) (okEO D c) (okE D e)
  | .call f es => okCall D (okEL D es)
  | .bi b m es => okBi D (okEL D es)
  | .meth b o es => okMeth D (okE D o) (okEL D es)
  | .freeze e => okFreeze D (okE D e)
theorem okEL (D : Wd Z P gn G cf d) : ∀ es, PEL Z P gn G cf d es
  | .nil => okNil D
  | .cons e es => okCons D (okE D e) (okEL D es)
theorem okEO (D : Wd Z P gn G cf d) : ∀ e, PEO Z P gn G cf d e
  | .no => okNo D
  | .yes e => okYes D (okE D e)
theorem okIt (D : Wd Z P gn G cf d) : ∀ e, PIt Z P gn G cf d e
  | .seq e => okSeq D (okE D e)
  | .range e => okRange D (okE D e)
  | .range2 a b => okRange2 D (okE D a) (okE D b)
  | .enum e => okEnum D
end
end
end Mine

set_option autoImplicit false
set_option linter.unusedVariables false
namespace Mine
open PySem PySem.Calls

noncomputable def isCallEx (ex : Expr) : Bool := (gCall ex).isSome

noncomputable def vComp (ex : Expr) : Nat := Expr.casesOn (motive_1 := fun _ => Nat) ex (fun _ _ _ => 0) (fun _ _ _ => 0) (fun _ _ _ _ => 0) (fun _ _ _ => 0) (fun _ _ _ _ => 0) (fun _ _ _ _ => 0) (fun _ _ _ => 0) (fun _ _ _ => 0) (fun _ _ _ _ => 1) (fun _ _ _ _ => 2) (fun _ _ _ _ _ => 2) (fun _ _ _ _ => 0) (fun _ _ => 0) (fun _ _ => 0) (fun _ _ => 0) (fun _ _ _ _ => 0) (fun _ _ _ _ => 0) (fun _ _ _ _ => 0) (fun _ _ => 0) (fun _ _ _ => 0) (fun _ _ _ => 0) (fun _ _ _ => 0) (fun _ _ => 0) (fun _ _ => 0) (fun _ _ => 0) (fun _ _ _ => 0) (fun _ _ _ _ => 0)
noncomputable def eComp : E → Bool
  | .comp .. => true
  | _ => false
theorem eComp_ok {e : E} (h : eComp e = true) : ∃ m t it c e', e = .comp m t it c e' := by
  cases e <;> first | exact ⟨_, _, _, _, _, rfl⟩ | exact Bool.noConfusion h
noncomputable def asgOk (e : E) (v : Expr) : Bool := match vComp v with
  | 0 => true
  | 1 => eComp e
  | _ => false

noncomputable def sExpr (ex : Stmt) : Option (Expr) := Stmt.casesOn (motive_2 := fun _ => Option (Expr)) ex (fun _ _ _ _ _ _ _ _ _ _ => none) (fun _ _ _ _ _ _ _ _ _ _ => none) (fun _ _ _ _ _ _ _ _ _ _ _ => none) (fun _ _ => none) (fun _ _ => none) (fun _ _ _ => none) (fun _ _ _ _ _ _ _ => none) (fun _ _ _ _ => none) (fun _ _ _ _ _ => none) (fun _ _ _ _ _ => none) (fun _ _ _ _ _ => none) (fun _ _ _ _ => none) (fun _ _ _ _ => none) (fun _ _ _ => none) (fun _ _ _ => none) (fun _ _ _ => none) (fun _ _ _ => none) (fun _ _ _ _ _ => none) (fun _ _ _ _ _ => none) (fun _ _ _ => none) (fun _ _ => none) (fun _ _ _ _ => none) (fun _ _ => none) (fun _ _ => none) (fun a0 _ => some a0) (fun _ => none) (fun _ => none) (fun _ => none)
theorem sExpr_ok {ex : Stmt} {x : Expr} (h : sExpr ex = some x) : ∃ p, ex = .Expr x p := by
  cases ex <;> first | exact nos h rfl | (cases h; exact ⟨_, rfl⟩)
noncomputable def sAsg (ex : Stmt) : Option (List Expr × Expr) := Stmt.casesOn (motive_2 := fun _ => Option (List Expr × Expr)) ex (fun _ _ _ _ _ _ _ _ _ _ => none) (fun _ _ _ _ _ _ _ _ _ _ => none) (fun _ _ _ _ _ _ _ _ _ _ _ => none) (fun _ _ => none) (fun _ _ => none) (fun a0 a1 _ => some (a0, a1)) (fun _ _ _ _ _ _ _ => none) (fun _ _ _ _ => none) (fun _ _ _ _ _ => none) (fun _ _ _ _ _ => none) (fun _ _ _ _ _ => none) (fun _ _ _ _ => none) (fun _ _ _ _ => none) (fun _ _ _ => none) (fun _ _ _ => none) (fun _ _ _ => none) (fun _ _ _ => none) (fun _ _ _ _ _ => none) (fun _ _ _ _ _ => none) (fun _ _ _ => none) (fun _ _ => none) (fun _ _ _ _ => none) (fun _ _ => none) (fun _ _ => none) (fun _ _ => none) (fun _ => none) (fun _ => none) (fun _ => none)
theorem sAsg_ok {ex : Stmt} {t : List Expr} {v : Expr} (h : sAsg ex = some (t, v)) : ∃ p, ex = .Assign t v p := by
  cases ex <;> first | exact nos h rfl | (cases h; exact ⟨_, rfl⟩)
noncomputable def sAug (ex : Stmt) : Option (Expr × Operator × Expr) := Stmt.casesOn (motive_2 := fun _ => Option (Expr × Operator × Expr)) ex (fun _ _ _ _ _ _ _ _ _ _ => none) (fun _ _ _ _ _ _ _ _ _ _ => none) (fun _ _ _ _ _ _ _ _ _ _ _ => none) (fun _ _ => none) (fun _ _ => none) (fun _ _ _ => none) (fun _ _ _ _ _ _ _ => none) (fun a0 a1 a2 _ => some (a0, a1, a2)) (fun _ _ _ _ _ => none) (fun _ _ _ _ _ => none) (fun _ _ _ _ _ => none) (fun _ _ _ _ => none) (fun _ _ _ _ => none) (fun _ _ _ => none) (fun _ _ _ => none) (fun _ _ _ => none) (fun _ _ _ => none) (fun _ _ _ _ _ => none) (fun _ _ _ _ _ => none) (fun _ _ _ => none) (fun _ _ => none) (fun _ _ _ _ => none) (fun _ _ => none) (fun _ _ => none) (fun _ _ => none) (fun _ => none) (fun _ => none) (fun _ => none)
theorem sAug_ok {ex : Stmt} {t v : Expr} {o : Operator} (h : sAug ex = some (t, o, v)) : ∃ p, ex = .AugAssign t o v p := by
  cases ex <;> first | exact nos h rfl | (cases h; exact ⟨_, rfl⟩)
noncomputable def sIf (ex : Stmt) : Option (Expr × List Stmt × List Stmt) := Stmt.casesOn (motive_2 := fun _ => Option (Expr × List Stmt × List Stmt)) ex (fun _ _ _ _ _ _ _ _ _ _ => none) (fun _ _ _ _ _ _ _ _ _ _ => none) (fun _ _ _ _ _ _ _ _ _ _ _ => none) (fun _ _ => none) (fun _ _ => none) (fun _ _ _ => none) (fun _ _ _ _ _ _ _ => none) (fun _ _ _ _ => none) (fun _ _ _ _ _ => none) (fun _ _ _ _ _ => none) (fun _ _ _ _ _ => none) (fun _ _ _ _ => none) (fun a0 a1 a2 _ => some (a0, a1, a2)) (fun _ _ _ => none) (fun _ _ _ => none) (fun _ _ _ => none) (fun _ _ _ => none) (fun _ _ _ _ _ => none) (fun _ _ _ _ _ => none) (fun _ _ _ => none) (fun _ _ => none) (fun _ _ _ _ => none) (fun _ _ => none) (fun _ _ => none) (fun _ _ => none) (fun _ => none) (fun _ => none) (fun _ => none)
theorem sIf_ok {ex : Stmt} {t : Expr} {a b : List Stmt} (h : sIf ex = some (t, a, b)) : ∃ p, ex = .If t a b p := by
  cases ex <;> first | exact nos h rfl | (cases h; exact ⟨_, rfl⟩)
noncomputable def sFor (ex : Stmt) : Option (Expr × Expr × List Stmt × List Stmt) := Stmt.casesOn (motive_2 := fun _ => Option (Expr × Expr × List Stmt × List Stmt)) ex (fun _ _ _ _ _ _ _ _ _ _ => none) (fun _ _ _ _ _ _ _ _ _ _ => none) (fun _ _ _ _ _ _ _ _ _ _ _ => none) (fun _ _ => none) (fun _ _ => none) (fun _ _ _ => none) (fun _ _ _ _ _ _ _ => none) (fun _ _ _ _ => none) (fun _ _ _ _ _ => none) (fun a0 a1 a2 a3 _ => some (a0, a1, a2, a3)) (fun _ _ _ _ _ => none) (fun _ _ _ _ => none) (fun _ _ _ _ => none) (fun _ _ _ => none) (fun _ _ _ => none) (fun _ _ _ => none) (fun _ _ _ => none) (fun _ _ _ _ _ => none) (fun _ _ _ _ _ => none) (fun _ _ _ => none) (fun _ _ => none) (fun _ _ _ _ => none) (fun _ _ => none) (fun _ _ => none) (fun _ _ => none) (fun _ => none) (fun _ => none) (fun _ => none)
theorem sFor_ok {ex : Stmt} {t i : Expr} {b o : List Stmt} (h : sFor ex = some (t, i, b, o)) : ∃ p, ex = .For t i b o p := by
  cases ex <;> first | exact nos h rfl | (cases h; exact ⟨_, rfl⟩)
noncomputable def sRet (ex : Stmt) : Option (Option Expr) := Stmt.casesOn (motive_2 := fun _ => Option (Option Expr)) ex (fun _ _ _ _ _ _ _ _ _ _ => none) (fun _ _ _ _ _ _ _ _ _ _ => none) (fun _ _ _ _ _ _ _ _ _ _ _ => none) (fun a0 _ => some a0) (fun _ _ => none) (fun _ _ _ => none) (fun _ _ _ _ _ _ _ => none) (fun _ _ _ _ => none) (fun _ _ _ _ _ => none) (fun _ _ _ _ _ => none) (fun _ _ _ _ _ => none) (fun _ _ _ _ => none) (fun _ _ _ _ => none) (fun _ _ _ => none) (fun _ _ _ => none) (fun _ _ _ => none) (fun _ _ _ => none) (fun _ _ _ _ _ => none) (fun _ _ _ _ _ => none) (fun _ _ _ => none) (fun _ _ => none) (fun _ _ _ _ => none) (fun _ _ => none) (fun _ _ => none) (fun _ _ => none) (fun _ => none) (fun _ => none) (fun _ => none)
theorem sRet_ok {ex : Stmt} {v : Option Expr} (h : sRet ex = some v) : ∃ p, ex = .Return v p := by
  cases ex <;> first | exact nos h rfl | (cases h; exact ⟨_, rfl⟩)
noncomputable def sPass (ex : Stmt) : Option (Unit) := Stmt.casesOn (motive_2 := fun _ => Option (Unit)) ex (fun _ _ _ _ _ _ _ _ _ _ => none) (fun _ _ _ _ _ _ _ _ _ _ => none) (fun _ _ _ _ _ _ _ _ _ _ _ => none) (fun _ _ => none) (fun _ _ => none) (fun _ _ _ => none) (fun _ _ _ _ _ _ _ => none) (fun _ _ _ _ => none) (fun _ _ _ _ _ => none) (fun _ _ _ _ _ => none) (fun _ _ _ _ _ => none) (fun _ _ _ _ => none) (fun _ _ _ _ => none) (fun _ _ _ => none) (fun _ _ _ => none) (fun _ _ _ => none) (fun _ _ _ => none) (fun _ _ _ _ _ => none) (fun _ _ _ _ _ => none) (fun _ _ _ => none) (fun _ _ => none) (fun _ _ _ _ => none) (fun _ _ => none) (fun _ _ => none) (fun _ _ => none) (fun _ => some ()) (fun _ => none) (fun _ => none)
theorem sPass_ok {ex : Stmt} {u : Unit} (h : sPass ex = some u) : ∃ p, ex = .Pass p := by
  cases ex <;> first | exact nos h rfl | (cases h; exact ⟨_, rfl⟩)
noncomputable def mNames (sc : List (Str × Nat)) : List Nat → List Expr → Bool
  | [], xs => xs.isEmpty
  | i :: l, xs => ob (unc xs) fun q => ob (gName q.1) fun x => decide (sc.lookup x = some i) && mNames sc l q.2
section
variable (P : Nat → Option Fn) (gn : Nat → Str)
mutual
noncomputable def mS (ks : List (Str × NameKind)) (sc : List (Str × Nat)) : S → Stmt → Bool
  | .expr e, st => ob (sExpr st) fun v => isCallEx v && mE P gn ks sc e v
  | .asg t e, st => ob (sAsg st) fun q => ob (one q.1) fun tx => mTgt sc t tx && asgOk e q.2 && mE P gn ks sc e q.2
  | .asgT l e, st => ob (sAsg st) fun q => ob (one q.1) fun tx => ob (gTup tx) fun xs => mNames sc l xs && decide (vComp q.2 = 0) && (gTup q.2).isNone && mE P gn ks sc e q.2
  | .put o i e, st => ob (sAsg st) fun q => ob (one q.1) fun tx => ob (gSub tx) fun p => notSlice p.2 && mE P gn ks sc o p.1 && mE P gn ks sc i p.2 && mE P gn ks sc e q.2
  | .aug _ _, _ => false
  | .ite c a b, st => ob (sIf st) fun q => mE P gn ks sc c q.1 && mSL ks sc a q.2.1 && mSL ks sc b q.2.2
  | .forr t it b, st => ob (sFor st) fun q => q.2.2.2.isEmpty && mTgt sc t q.1 && notSet q.2.1 && mIt P gn ks sc it q.2.1 && mSL ks sc b q.2.2.1
  | .ret e, st => ob (sRet st) fun o => ob o fun v => mE P gn ks sc e v
  | .pass, st => ob (sPass st) fun _ => true
  | .stop, _ => true
noncomputable def mSL (ks : List (Str × NameKind)) (sc : List (Str × Nat)) : SL → List Stmt → Bool
  | .nil, xs => xs.isEmpty
  | .cons s r, xs => ob (unc xs) fun q => mS ks sc s q.1 && mSL ks sc r q.2
end
end

section
variable {Z : Cx} {P : Nat → Option Fn} {gn : Nat → Str} {G : Nat → Option PyData} {cf : Nat → List V → Store → Res V} {d : Nat}
variable {A : Around} {env : Env} {β β₁ : List Addr} {σ σ₁ : Store} {s s₂ : Shared} {ks : List (Str × NameKind)} {sc : List (Str × Nat)} {ρ : Fm}

noncomputable def FR (Z : Cx) (env : Env) (ks : List (Str × NameKind)) (sc : List (Str × Nat)) (f : Flow) (o : Out) (β : List Addr) (σ : Store) (h : Heap) : Prop := match o with
  | .next ρ' => f = .next ∧ FrameOk Z env ks sc ρ' β σ h
  | .ret v => ∃ w, f = .ret w ∧ VRel β σ h w v

noncomputable def PS (Z : Cx) (P : Nat → Option Fn) (gn : Nat → Str) (G : Nat → Option PyData) (cf : Nat → List V → Store → Res V) (d : Nat) (st : S) : Prop :=
  ∀ ks sc x env ρ A β σ s, mS P gn ks sc st x = true → AOk d A → FrameOk Z env ks sc ρ β σ s.heap → Inv Z β σ s.heap → Ev Z (own env) A (PySem.exec x env) (exec G cf st ρ σ) (FR Z env ks sc) β σ s
noncomputable def PSL (Z : Cx) (P : Nat → Option Fn) (gn : Nat → Str) (G : Nat → Option PyData) (cf : Nat → List V → Store → Res V) (d : Nat) (st : SL) : Prop :=
  ∀ ks sc xs env ρ A β σ s, mSL P gn ks sc st xs = true → AOk d A → FrameOk Z env ks sc ρ β σ s.heap → Inv Z β σ s.heap → Ev Z (own env) A (PySem.execs xs env) (execs G cf st ρ σ) (FR Z env ks sc) β σ s

theorem swaps_plain {v : Expr} {t : Option Expr} {n : Nat} (h : isCallEx v = true) : swapsWith v t n env = pure false := by
  cases v <;> first | rfl | cases h

theorem sOkExpr (D : Wd Z P gn G cf d) {e : E} : PS Z P gn G cf d (.expr e) := fun ks sc x env ρ A β σ s hm hA F I => by
  replace hm := ob_ok hm; obtain ⟨v, h0, hm⟩ := hm
  obtain ⟨pos, rfl⟩ := sExpr_ok h0
  · simp only [Bool.and_eq_true] at hm
    intro c σ' ev
    rw [x_expr] at ev
    obtain ⟨w, σ₁, h1, h2⟩ := Res.bind_ok ev
    obtain ⟨_, hw, h2⟩ := oc_ok h2
    replace hw := noneV_ok hw; subst hw
    · cases h2
      rw [arm_exec_Expr]
      have hi : interactive env = false := by unfold interactive; rw [F.kind]; rfl
      refine wpAny_bind (wpAny_standAt ?_)
      rw [hi, swaps_plain hm.1]
      show wpAny _ _ (do dropValue v pos (← eval v env)) _ _ _
      refine wpAny_bind (wpAny_mono (((okE D e) ks sc v env ρ A β σ s hm.2 hA F I).1 _ _ h1) (fun a s₁ ⟨β₁, S, I₁, q⟩ => ?_) fun _ _ x => x)
      cases q
      have : dropValue v pos .none = pure .next := by
        have := hm.1
        cases v <;> first | rfl | cases this
      rw [this]
      exact wpAny_pure ⟨β₁, S.ofNo, I₁, rfl, F.step S⟩

/-- a value is bound -/
theorem bind_var {x : Str} {i : Nat} {v : V} {w : Value} {Q : Unit → Shared → Prop} {E : Value → Shared → Prop} (F : FrameOk Z env ks sc ρ β σ s.heap) (I : Inv Z β σ s.heap) (hx : sc.lookup x = some i) (r : VRel β σ s.heap w v)
    (q : ∀ s', FrameOk Z env ks sc (ρ.set i v) β σ s'.heap → Step (own env) β σ s β σ s' → Inv Z β σ s'.heap → Q () s') : wpAny (model Z.prog Z.w) A (storeName env x w) Q E s :=
  F.store I hx r fun s' F' S' I' _ _ => q s' F' S' I'

theorem swaps_cases {e : E} {v : Expr} {x : Str} {px : Pos} {n : Nat} (h : asgOk e v = true) : swapsWith v (some (.Name x px)) n env = pure false ∨ (swapsWith v (some (.Name x px)) n env = pure true ∧ ∃ m t it c e' a g s p, e = .comp m t it c e' ∧ v = .ListComp a g s p) := by
  cases v
  case ListComp a g s p =>
    obtain ⟨m, t, it, c, e', rfl⟩ := eComp_ok (show eComp e = true from h)
    have hb : swapsWith (.ListComp a g s p) (some (.Name x px)) n env = pure (env.blockKind == .function && env.kindOf x == some .local && px.line == (Expr.ListComp a g s p).pos.line && !(s.names.any fun (n, k) => n == x && (k == .local || k == .cell))) := rfl
    generalize (env.blockKind == .function && env.kindOf x == some .local && px.line == (Expr.ListComp a g s p).pos.line && !(s.names.any fun (n, k) => n == x && (k == .local || k == .cell))) = b at hb
    cases b with
    | false => exact .inl hb
    | true => exact .inr ⟨hb, _, _, _, _, _, _, _, _, _, rfl, rfl⟩
  all_goals first
    | exact .inl rfl
    | exact Bool.noConfusion (show false = true from h)

theorem sOkAsg (D : Wd Z P gn G cf d) {t : Tgt} {e : E} : PS Z P gn G cf d (.asg t e) := fun ks sc x env ρ A β σ s hm hA F I => by
  replace hm := ob_ok hm; obtain ⟨⟨txs, v⟩, hz, hm⟩ := hm
  obtain ⟨pos, rfl⟩ := sAsg_ok hz; clear hz
  replace hm := ob_ok hm; obtain ⟨tx, h00, hm⟩ := hm
  replace h00 := one_ok h00; subst h00
  · simp only [Bool.and_eq_true] at hm
    obtain ⟨⟨h1, h0⟩, h2⟩ := hm
    replace h1 := mTgt_ok h1; obtain ⟨i, x, px, rfl, rfl, h1⟩ := h1
    · intro c σ' ev
      have ev' : ((evalE G cf e ρ σ).bind fun x σ₁ => lift ((bindV (.var i) x ρ).map Out.next) σ₁) = .ok c σ' := ev
      obtain ⟨w, σ₁, h3, h4⟩ := Res.bind_ok ev'
      obtain ⟨ρ', hb, rfl, rfl⟩ := lift_map h4
      cases hb
      rw [arm_exec_Assign]
      refine wpAny_bind (wpAny_standAt ?_)
      show wpAny _ _ (swapsWith v (some (.Name x px)) pos.line env >>= fun b => if b = true then _ else _) _ _ _
      rcases swaps_cases (env := env) (x := x) (px := px) (n := pos.line) h0 with hq | ⟨hq, m, t, it, c, e', a, g, sc₁, p, rfl, rfl⟩
      · rw [hq]
        refine wpAny_bind (wpAny_pure ?_)
        rw [if_neg (by simp)]
        refine wpAny_bind (wpAny_mono ((okE D e ks sc v env ρ A β σ s h2 hA F I).1 _ _ h3) (fun u s₁ ⟨β₁, S, I₁, q⟩ => ?_) fun _ _ x => x)
        have hsw : swappedStores [.Name x px] v env = pure none := rfl
        rw [hsw]
        refine wpAny_bind (wpAny_pure ?_)
        show wpAny _ _ (assign (.Name x px) env u >>= fun _ => pure Flow.next) _ _ _
        refine wpAny_bind (wpAny_assign_Name (bind_var (F.step S) I₁ h1.1 q fun s' F' S' I' => wpAny_pure ⟨β₁, S.ofNo.trans S', I', rfl, F'⟩))
      · rw [hq]
        refine wpAny_bind (wpAny_pure ?_)
        rw [if_pos rfl]
        obtain ⟨elt, x₀, p₀, i₀, iter, ifs, scope, pos', q, rfl, k1, k2, N, k5, k6⟩ := comp_parts h2
        cases q
        rw [arm_evalThenUse_ListComp]
        refine wpAny_bind (wpAny_bind ?_)
        show wpAny _ _ (comprehension _ sc₁ env _ (newList []) false (eval iter env) (some fun v => assign (.Name x px) env v)) _ _ _
        refine comp_eval D (okIt D it) (okEO D c) (okE D e') k1 k2 N k5 k6 hA F I h3 fun acc C s' h => ?_
        obtain ⟨β', mm, S, I', rv, hn, hC, hCb⟩ := h
        have h0 : Z.h₀.get? C = none := by
          cases q : Z.h₀.get? C with
          | none => rfl
          | some o => rw [I.base C o q] at hC; cases hC
        have hnC : ¬ own env C := fun z => by obtain ⟨o, ho, _⟩ := F.ownSome z; rw [hC] at ho; cases ho
        show wpAny _ _ (assign (.Name x px) env acc) _ _ _
        refine wpAny_assign_Name (bind_var (F.step S) I' h1.1 rv fun s'' F'' S'' I'' => ?_)
        have hn'' : ∃ m, s''.heap.Ns C m := by
          obtain ⟨o, es, ep, ho, q⟩ := hn
          exact ⟨mm, o, es, ep, S''.keep C o ho (fun z => hCb z.tt.mem) hnC, q⟩
        obtain ⟨m'', hn''⟩ := hn''
        refine ⟨m'', hn'', fun h' hs' => ?_⟩
        have hk : ∀ b o, b ≠ C → s''.heap.get? b = some o → h'.get? b = some o := fun b o hb e => (hs'.2 b hb).trans e
        refine wpAny_pure (wpAny_pure ⟨β', (S.ofNo.trans S'').tail hC hk rfl rfl, I''.touch hCb h0 (ns_noSeq hn'') hk, rfl, F''.touch hnC (ns_noSeq hn'') hk⟩)

theorem mNames_cons {i : Nat} {l : List Nat} {xs : List Expr} (h : mNames sc (i :: l) xs = true) : ∃ x p ys, xs = .Name x p :: ys ∧ sc.lookup x = some i ∧ mNames sc l ys = true := by
  replace h := ob_ok h; obtain ⟨⟨y, ys⟩, h0, h⟩ := h
  replace h := ob_ok h; obtain ⟨x, h1, h⟩ := h
  obtain ⟨p, h1⟩ := gName_ok h1
  simp only [Bool.and_eq_true, decide_eq_true_eq] at h
  exact ⟨x, p, ys, by rw [unc_ok h0]; exact congrArg (· :: ys) h1, h.1, h.2⟩
theorem each_names : ∀ {l : List Nat} {xs : List Expr}, mNames sc l xs = true → (assignEach xs env).length = l.length ∧ (assignEach xs env).findIdx? (·.1) = none
  | [], xs, h => by have h := nil_ok h; subst h; exact ⟨rfl, rfl⟩
  | i :: l, xs, h => by
    obtain ⟨x, p, ys, rfl, _, h⟩ := mNames_cons h
    have ih := each_names h
    have e : assignEach (.Name x p :: ys) env = (false, assign (.Name x p) env) :: assignEach ys env := rfl
    rw [e]
    exact ⟨by rw [List.length_cons, List.length_cons, ih.1], by rw [List.findIdx?_cons, ih.2]; rfl⟩
theorem store_names {A : Around} {Q : Unit → Shared → Prop} {E : Value → Shared → Prop} : ∀ {l : List Nat} {xs : List Expr} {vs : List Value} {ds : List PyData} {ρ : Fm} {s : Shared}, mNames sc l xs = true → l.length = ds.length → RelAll (TT β σ) s.heap vs ds → FrameOk Z env ks sc ρ β σ s.heap → Inv Z β σ s.heap →
    (∀ s', FrameOk Z env ks sc (setAll l ds ρ) β σ s'.heap → Step (own env) β σ s β σ s' → Inv Z β σ s'.heap → Q () s') → wpAny (model Z.prog Z.w) A (assignInOrder ((assignEach xs env).map (·.2)) vs) Q E s
  | [], xs, vs, [], ρ, s, h, _, r, F, I, q => by
    have h := nil_ok h; subst h
    exact wpAny_pure (q s F Step.refl I)
  | [], xs, vs, _ :: _, ρ, s, _, hl, _, _, _, _ => by cases hl
  | i :: l, xs, vs, [], ρ, s, _, hl, _, _, _, _ => by cases hl
  | i :: l, xs, vs, d :: ds, ρ, s, h, hl, r, F, I, q => by
    obtain ⟨x, p, ys, rfl, hx, h⟩ := mNames_cons h
    obtain ⟨v, vs', rfl, r, rs⟩ := r.inv
    show wpAny _ _ (holding vs' (assign (.Name x p) env v) >>= fun _ => assignInOrder ((assignEach ys env).map (·.2)) vs') _ _ _
    refine wpAny_bind (wpAny_holding (wpAny_assign_Name (F.store I hx (v := .d d) r fun s' F' S' I' keep _ => ?_)))
    refine store_names h (Nat.succ.inj hl) ?_ F' I' fun s'' F'' S'' I'' => q s'' F'' (S'.trans S'') I''
    exact S'.relAll F.notSeq rs
theorem swaps_tup {v : Expr} {xs : List Expr} {k : Nat} {p : Pos} {n : Nat} (h : vComp v = 0) (ht : (gTup v).isNone = true) : swapsWith v (some (.Tuple xs k p)) n env = pure false ∧ swappedStores [.Tuple xs k p] v env = pure none := by
  cases v <;> first | exact ⟨rfl, rfl⟩ | exact Bool.noConfusion (show false = true from ht) | exact absurd h (by decide)
theorem sOkAsgT (D : Wd Z P gn G cf d) {l : List Nat} {e : E} : PS Z P gn G cf d (.asgT l e) := fun ks sc x env ρ A β σ s hm hA F I => by
  replace hm := ob_ok hm; obtain ⟨⟨txs, v⟩, hz, hm⟩ := hm
  obtain ⟨pos, rfl⟩ := sAsg_ok hz; clear hz
  replace hm := ob_ok hm; obtain ⟨tx, hz, hm⟩ := hm
  replace hz := one_ok hz; subst hz
  replace hm := ob_ok hm; obtain ⟨xs, hz, hm⟩ := hm
  obtain ⟨k, p, rfl⟩ := gTup_ok hz; clear hz
  simp only [Bool.and_eq_true, decide_eq_true_eq] at hm
  obtain ⟨⟨⟨h1, h2⟩, h3⟩, h4⟩ := hm
  intro c σ' ev
  rw [x_asgT] at ev
  obtain ⟨w, σ₁, e1, ev⟩ := Res.bind_ok ev
  obtain ⟨ds, hw, ev⟩ := oc_ok ev
  obtain ⟨hl, ev⟩ := if_ok ev
  cases ev
  have hw := tupV_ok hw; subst hw
  obtain ⟨q1, q2⟩ := swaps_tup (env := env) (xs := xs) (k := k) (p := p) (n := pos.line) h2 h3
  rw [arm_exec_Assign]
  refine wpAny_bind (wpAny_standAt ?_)
  show wpAny _ _ (swapsWith v (some (.Tuple xs k p)) pos.line env >>= fun b => if b = true then _ else _) _ _ _
  rw [q1]
  refine wpAny_bind (wpAny_pure ?_)
  rw [if_neg (by simp)]
  refine wpAny_bind (wpAny_mono ((okE D e ks sc v env ρ A β σ s h4 hA F I).1 _ _ e1) (fun u s₁ ⟨β₁, S, I₁, q⟩ => ?_) fun _ _ x => x)
  rw [q2]
  refine wpAny_bind (wpAny_pure ?_)
  show wpAny _ _ (assign (.Tuple xs k p) env u >>= fun _ => pure Flow.next) _ _ _
  obtain ⟨a, vs, n, rfl, ha, ht, hz, r⟩ := vtup q
  have hn := each_names (env := env) h1
  have hz := r.length
  simp only [Array.length_toList] at hz
  refine wpAny_bind (wpAny_assign_Tuple hA.1 ⟨_, ha, rfl, _, rfl⟩ (by rw [hn.1, hz, hl]) hn.2 fun h' he => ?_)
  have hk : ∀ b o, s₁.heap.get? b = some o → h'.get? b = some o := fun b o e => he b o (Nat.ne_of_lt (Heap.lt_size e)) e
  have S2 : Step noO β₁ σ' s₁ β₁ σ' { s₁ with heap := h' } := Step.grow hk rfl rfl
  refine store_names h1 hl (r.mono fun x o _ _ e _ t => ⟨hk _ _ e, t⟩) ((F.step S).step S2) (I₁.grow hk) fun s' F' S' I' => wpAny_pure ⟨β₁, (S.trans S2).ofNo.trans S', I', rfl, F'⟩

theorem swaps_sub {v o i : Expr} {p : Pos} {n : Nat} : swapsWith v (some (.Subscript o i p)) n env = pure false := by
  cases v <;> rfl
theorem sOkPut (D : Wd Z P gn G cf d) {o i e : E} : PS Z P gn G cf d (.put o i e) := fun ks sc x env ρ A β σ s hm hA F I => by
  replace hm := ob_ok hm; obtain ⟨⟨txs, v⟩, hz, hm⟩ := hm
  obtain ⟨pos, rfl⟩ := sAsg_ok hz; clear hz
  replace hm := ob_ok hm; obtain ⟨tx, h00, hm⟩ := hm
  replace h00 := one_ok h00; subst h00
  replace hm := ob_ok hm; obtain ⟨⟨ox, ix⟩, h00, hm⟩ := hm
  obtain ⟨p, rfl⟩ := gSub_ok h00
  · simp only [Bool.and_eq_true] at hm
    obtain ⟨⟨⟨h0, h1⟩, h2⟩, h3⟩ := hm
    intro c σ' ev
    rw [x_put] at ev
    obtain ⟨x, σ₁, e1, ev⟩ := Res.bind_ok ev
    obtain ⟨a, σ₂, e2, ev⟩ := Res.bind_ok ev
    obtain ⟨k, σ₃, e3, ev⟩ := Res.bind_ok ev
    obtain ⟨xd, hx, ev⟩ := oc_ok ev
    obtain ⟨n, ks', ha, hk, ev⟩ := b2_ok ev
    obtain ⟨l, hl, ev⟩ := oc_ok ev
    obtain ⟨hlim, evF⟩ := if_ok ev
    clear ev
    replace hl := dctAt_ok hl
    replace hx := pureD_ok hx; replace ha := locV_ok ha; replace hk := strV_ok hk
    subst hx; subst ha; subst hk
    · skip
      · skip
        · skip
          cases evF
          refine wpAny_Assign_Subscript ?_ swaps_sub
          refine wpAny_mono ((okE D e ks sc v env ρ A β σ s h3 hA F I).1 _ _ e1) (fun u s₁ ⟨β₁, S₁, I₁, ru⟩ => ?_) fun _ _ x => x
          refine wpAny_mono ((okE D o ks sc ox env ρ A β₁ σ₁ s₁ h1 hA (F.step S₁) I₁).1 _ _ e2) (fun ov s₂ ⟨β₂, S₂, I₂, ro⟩ => ?_) fun _ _ x => x
          refine wpAny_mono ((okE D i ks sc ix env ρ A β₂ σ₂ s₂ h2 hA ((F.step S₁).step S₂) I₂).1 _ _ e3) (fun iv s₃ ⟨β₃, S₃, I₃, ri⟩ => ?_) fun _ _ x => x
          obtain ⟨ad, hb, rfl⟩ := S₃.vrel0 ro
          obtain ⟨t, rfl, g⟩ := vstr ri
          have S := (S₁.trans S₂).trans S₃
          refine put_sound (O := noO) I₃ hb hl g (S₃.rel0 (S₂.rel0 ru)) hlim fun s' S' I' => ?_
          exact ⟨β₃, (S.trans S').ofNo, I', rfl, F.step (S.trans S')⟩

theorem sOkAug (D : Wd Z P gn G cf d) {i : Nat} {e : E} : PS Z P gn G cf d (.aug i e) := fun ks sc x env ρ A β σ s hm hA F I => Bool.noConfusion (show false = true from hm)
theorem sOkRet (D : Wd Z P gn G cf d) {e : E} : PS Z P gn G cf d (.ret e) := fun ks sc x env ρ A β σ s hm hA F I => by
  replace hm := ob_ok hm; obtain ⟨o, h0, hm⟩ := hm
  obtain ⟨pos, rfl⟩ := sRet_ok h0
  replace hm := ob_ok hm; obtain ⟨v, h00, hm⟩ := hm
  subst h00
  · intro c σ' ev
    rw [x_ret] at ev
    obtain ⟨y, σ₁, e1, ev⟩ := Res.bind_ok ev
    cases ev
    rw [arm_exec_Return]
    refine wpAny_bind (wpAny_standAt ?_)
    show wpAny _ _ (eval v env >>= fun r => pure (Flow.ret r)) _ _ _
    exact wpAny_bind (wpAny_mono ((okE D e ks sc v env ρ A β σ s hm hA F I).1 _ _ e1) (fun u s₁ ⟨β₁, S₁, I₁, ru⟩ => wpAny_pure ⟨β₁, S₁.ofNo, I₁, u, rfl, ru⟩) fun _ _ x => x)
theorem sOkPass (D : Wd Z P gn G cf d) : PS Z P gn G cf d .pass := fun ks sc x env ρ A β σ s hm hA F I => by
  replace hm := ob_ok hm; obtain ⟨_, h0, hm⟩ := hm
  obtain ⟨pos, rfl⟩ := sPass_ok h0
  rw [arm_exec_Pass]
  exact Ev.standAt (Ev.pure I ⟨rfl, F⟩)
theorem sOkIte (D : Wd Z P gn G cf d) {c : E} {a b : SL} (ha : PSL Z P gn G cf d a) (hb : PSL Z P gn G cf d b) : PS Z P gn G cf d (.ite c a b) := fun ks sc x env ρ A β σ s hm hA F I => by
  replace hm := ob_ok hm; obtain ⟨⟨t, x, y⟩, h0, hm⟩ := hm
  obtain ⟨pos, rfl⟩ := sIf_ok h0
  · simp only [Bool.and_eq_true] at hm
    obtain ⟨⟨h1, h2⟩, h3⟩ := hm
    have ev : exec G cf (.ite c a b) ρ σ = (trR (evalE G cf c ρ σ)).bind fun t σ₁ => if t then execs G cf a ρ σ₁ else execs G cf b ρ σ₁ := by
      have ev0 : exec G cf (.ite c a b) ρ σ = (evalE G cf c ρ σ).bind (fun x σ₁ => (lift (truthy σ₁ x) σ₁).bind fun t σ₁ => if t then execs G cf a ρ σ₁ else execs G cf b ρ σ₁) := rfl
      rw [ev0]
      unfold trR
      cases evalE G cf c ρ σ <;> rfl
    rw [ev, arm_exec_If]
    refine Ev.standAt (Ev.bindO (okE D c ks sc t env ρ A β σ s h1 hA F I).2 fun v w β₁ σ₁ s₁ S₁ I₁ q _ => ?_)
    cases q
    cases v with
    | true => exact ha ks sc x env ρ A β₁ σ₁ s₁ h2 hA (F.step S₁) I₁
    | false => exact hb ks sc y env ρ A β₁ σ₁ s₁ h3 hA (F.step S₁) I₁
theorem sOkNil (D : Wd Z P gn G cf d) : PSL Z P gn G cf d .nil := fun ks sc xs env ρ A β σ s hm hA F I => by
  replace hm := nil_ok hm; subst hm
  exact Ev.pure I ⟨rfl, F⟩
theorem sOkCons (D : Wd Z P gn G cf d) {st : S} {r : SL} (hs : PS Z P gn G cf d st) (hr : PSL Z P gn G cf d r) : PSL Z P gn G cf d (.cons st r) := fun ks sc xs env ρ A β σ s hm hA F I => by
  replace hm := ob_ok hm; obtain ⟨⟨x, xs⟩, h0, hm⟩ := hm
  replace h0 := unc_ok h0; subst h0
  · simp only [Bool.and_eq_true] at hm
    rw [arm_execs_cons]
    have ev : execs G cf (.cons st r) ρ σ = (exec G cf st ρ σ).bind fun o σ₁ => match o with | .next ρ₁ => execs G cf r ρ₁ σ₁ | .ret v => .ok (.ret v) σ₁ := rfl
    rw [ev]
    refine Ev.bind (hs ks sc x env ρ A β σ s hm.1 hA F I) fun f o β₁ σ₁ s₁ S₁ I₁ q _ => ?_
    cases o with
    | next ρ' =>
      obtain ⟨rfl, F'⟩ := q
      exact hr ks sc xs env ρ' A β₁ σ₁ s₁ hm.2 hA F' I₁
    | ret v =>
      obtain ⟨w, rfl, q⟩ := q
      exact Ev.pure I₁ ⟨w, rfl, q⟩
end
end Mine

set_option autoImplicit false
set_option linter.unusedVariables false
namespace Mine
open PySem PySem.Calls

noncomputable def loopF (G : Nat → Option PyData) (cf : Nat → List V → Store → Res V) (t : Tgt) (b : SL) : PyData → Fm → Store → Res Out := fun x ρ' σ' => match bindT t x ρ' with
  | none => .bad
  | some ρ'' => execs G cf b ρ'' σ'
theorem exec_forr (G : Nat → Option PyData) (cf : Nat → List V → Store → Res V) (t : Tgt) (it : It) (b : SL) (ρ : Fm) (σ : Store) : exec G cf (.forr t it b) ρ σ = (evalIt G cf it ρ σ).bind fun I σ₁ =>
      (loopL (loopF G cf t b) I.shown ρ (lockS I.lk σ₁)).bind fun o σ₂ => .ok o (unlockS I.lk I.base σ₂) := rfl

theorem loopL_cons {f : PyData → Fm → Store → Res Out} {l : List PyData} {k : Nat} {d : PyData} {ρ : Fm} {σ σ' : Store} {o : Out} (hd : l[k]? = some d) (h : loopL f (l.drop k) ρ σ = .ok o σ') :
    ∃ o₁ σ₁, f d ρ σ = .ok o₁ σ₁ ∧ ((∃ ρ₁, o₁ = .next ρ₁ ∧ loopL f (l.drop (k + 1)) ρ₁ σ₁ = .ok o σ') ∨ (∃ v, o₁ = .ret v ∧ o = .ret v ∧ σ' = σ₁)) := by
  have hlt := (List.getElem?_eq_some_iff.mp hd).1
  have hd' := (List.getElem?_eq_some_iff.mp hd).2
  rw [List.drop_eq_getElem_cons hlt, hd'] at h
  rw [lo_cons] at h
  obtain ⟨o₁, σ₁, h1, h2⟩ := Res.bind_ok h
  cases o₁ with
  | next ρ₁ => exact ⟨_, σ₁, h1, .inl ⟨ρ₁, rfl, h2⟩⟩
  | ret v => cases h2; exact ⟨_, _, h1, .inr ⟨v, rfl, rfl, rfl⟩⟩

section
variable {Z : Cx} {P : Nat → Option Fn} {gn : Nat → Str} {G : Nat → Option PyData} {cf : Nat → List V → Store → Res V} {d : Nat}
variable {A : Around} {env : Env} {β β₁ : List Addr} {σ σ₁ : Store} {s s₂ : Shared} {ks : List (Str × NameKind)} {sc : List (Str × Nat)} {ρ : Fm}

theorem sOkFor (D : Wd Z P gn G cf d) {t : Tgt} {it : It} {b : SL} (hb : PSL Z P gn G cf d b) : PS Z P gn G cf d (.forr t it b) := fun ks sc x env ρ A β σ s hm hA F I => by
  replace hm := ob_ok hm; obtain ⟨⟨tx, iter, body, els⟩, h0, hm⟩ := hm
  obtain ⟨pos, rfl⟩ := sFor_ok h0
  · simp only [Bool.and_eq_true] at hm
    obtain ⟨⟨⟨⟨h0, h1⟩, h2⟩, h3⟩, h4⟩ := hm
    have h0 : els = [] := nil_ok h0
    subst h0
    replace h1 := mTgt_ok h1; obtain ⟨i₀, x₀, p₀, rfl, rfl, h1⟩ := h1
    · intro out σ' ev
      rw [exec_forr] at ev
      obtain ⟨It, σ₁, hit, ev⟩ := Res.bind_ok ev
      obtain ⟨o, σ₂, hr, hv⟩ := Res.bind_ok ev
      cases hv
      refine wpAny_For ?_ (fun x => notSet_fold h2 x)
      refine wpAny_mono (okIt D it ks sc iter env ρ A β σ s It σ₁ h3 hA F I hit) (fun x s₁ h => wpAny_mono h (fun itv s₂ h => ?_) fun _ _ x => x) fun _ _ x => x
      obtain ⟨β₁, Ia, fp, Pp, St, rfl, S₁, I₁, hIa, hIb, Op, hlk, hlen⟩ := h
      have h0 : ∀ a, s.heap.get? a = none → Z.h₀.get? a = none := fun a ha => by
        cases q : Z.h₀.get? a with
        | none => rfl
        | some o => rw [I.base a o q] at ha; cases ha
      obtain ⟨IL, SL⟩ := lockInv I₁ hlk
      have FL := (F.step S₁).step SL
      have hIaOwn : ¬ own env Ia := fun z => by obtain ⟨o, ho, _⟩ := F.ownSome z; rw [hIa] at ho; cases ho
      have L₀ : Lp Z A (own env) Ia fp It.shown Pp St β₁ (lockS It.lk σ₁) s₂ 0 β₁ (lockS It.lk σ₁) s₂ := Lp.start Op IL hIb (h0 Ia hIa)
      have ownS : ∀ x, own env x → ¬ seqAt s₂.heap x := (F.step S₁).notSeq
      let J : Nat → Shared → Prop := fun n s' => ∃ k βk σk ρk, n = It.shown.length + 1 - k ∧ k ≤ It.shown.length ∧ Lp Z A (own env) Ia fp It.shown Pp St β₁ (lockS It.lk σ₁) s₂ k βk σk s' ∧ FrameOk Z env ks sc ρk βk σk s'.heap ∧ loopL (loopF G cf (.var i₀) b) (It.shown.drop k) ρk σk = .ok out σ₂
      refine codeAny_forLoop J ?_ (It.shown.length + 1) ⟨0, _, _, ρ, rfl, Nat.zero_le _, L₀, FL, by simpa using hr⟩
      rintro n s' ⟨k, βk, σk, ρk, rfl, hkl, L, Fr, hrest⟩
      by_cases hlt : k < It.shown.length
      · refine L.next hlt fun w dd sa La hdd rw₁ hka hga hoa => ?_
        have hnsq := (L.op.noseq k _ L.st).2
        have Fa : FrameOk Z env ks sc ρk βk σk sa.heap := Fr.touch hIaOwn hnsq hka
        refine wpAny_assign_Name (Fa.store La.inv h1.1 (v := .d dd) rw₁ fun sb Fb Sb Ib keepV keepC => ?_)
        have Lb := La.step Sb Ib (fun x z => ⟨(Fa.apart x z).1, Fa.notSeq x z⟩) hIaOwn
        obtain ⟨o₁, σc, hf, hor⟩ := loopL_cons hdd hrest
        have hf : execs G cf b (ρk.set i₀ (.d dd)) σk = .ok o₁ σc := hf
        refine mono0 (wpAny_mono (hb ks sc body env _ A βk σk sb h4 hA Fb Ib o₁ σc hf) (fun f sc₁ ⟨βc, Sc, Ic, q⟩ => ?_) fun _ _ x => x)
        have Lc := Lb.step Sc Ic (fun x z => ⟨(Fb.apart x z).1, Fb.notSeq x z⟩) hIaOwn
        rcases hor with ⟨ρ₁, rfl, hrest₁⟩ | ⟨v, rfl, rfl, rfl⟩
        · obtain ⟨rfl, Fc⟩ := q
          exact ⟨It.shown.length + 1 - (k + 1), by omega, k + 1, βc, σc, ρ₁, rfl, hlt, Lc, Fc, hrest₁⟩
        · obtain ⟨u, rfl, ru⟩ := q
          obtain ⟨Sx, Ix, ttx⟩ := closeLoop S₁.ofNo I₁ hlk Lc.st0 Lc.inv ownS (Op.noseq 0 _ Op.start).2 hIa
          refine ⟨βc, Sx, Ix, u, rfl, ?_⟩
          exact KeepSeq.vrel (fun x o vs n e d t => ⟨e, fun z => t ((ttx x).mp z)⟩) ru
      · have hke : k = It.shown.length := by omega
        refine L.done hke fun sz hkz hgz hoz => ?_
        subst hke
        rw [List.drop_length] at hrest
        rw [lo_nil] at hrest
        cases hrest
        obtain ⟨Sx, Ix, ttx⟩ := closeLoop S₁.ofNo I₁ hlk L.st0 L.inv ownS (Op.noseq 0 _ Op.start).2 hIa
        have hnsI := (L.op.noseq _ _ L.st).2
        have Fx : FrameOk Z env ks sc ρk βk (unlockS It.lk It.base σ₂) s'.heap := Fr.seq (fun x o vs n e d t => ⟨e, fun z => t ((ttx x).mp z)⟩) fun b _ o e => e
        refine wpAny_execs_nil ⟨βk, Sx.tail hIa hkz hgz hoz, Ix.touch L.nm (h0 Ia hIa) hnsI hkz, rfl, Fx.touch hIaOwn hnsI hkz⟩

theorem sOkStop (D : Wd Z P gn G cf d) : PS Z P gn G cf d .stop := fun ks sc x env ρ A β σ s hm hA F I => by
  intro c σ' ev
  have ev : Res.bad = .ok c σ' := ev
  cases ev

mutual
theorem okS (D : Wd Z P gn G cf d) : ∀ st, PS Z P gn G cf d st
  | .expr e => sOkExpr D
  | .asg t e => sOkAsg D
  | .asgT l e => sOkAsgT D
  | .put o i e => sOkPut D
  | .aug i e => sOkAug D
  | .ite c a b => sOkIte D (okSL D a) (okSL D b)
  | .forr t it b => sOkFor D (okSL D b)
  | .ret e => sOkRet D
  | .pass => sOkPass D
  | .stop => sOkStop D
theorem okSL (D : Wd Z P gn G cf d) : ∀ st, PSL Z P gn G cf d st
  | .nil => sOkNil D
  | .cons s r => sOkCons D (okS D s) (okSL D r)
end
end
end Mine

set_option autoImplicit false
set_option linter.unusedVariables false
namespace Mine
open PySem PySem.Calls

noncomputable def slotsOk (names : List (Str × NameKind)) (slots : List (Str × Nat)) (ps : List Str) (np ns : Nat) : Bool :=
  (slots.all fun p => (decide (names.lookup p.1 = some .local) || (decide (names.lookup p.1 = some .cell))) && nameOk p.1) && decide (slots.map (·.2)).Nodup && decide (ps.length = np) &&
  (ps.zipIdx.all fun p => decide (slots.lookup p.1 = some p.2)) && decide (np ≤ ns) && (slots.all fun p => decide (p.2 < ns))

structure FnOk (Z : Cx) (P : Nat → Option Fn) (gn : Nat → Str) (fn : Fn) : Prop where
  ex : ∃ (a : Addr) (o : Obj) (fd : FuncData) (body : List Stmt) (ps : List Str), Z.mg fn.name = some (.ref a) ∧ Z.h₀.get? a = some o ∧ o.data = .func fd ∧ fd.body = .stmts body ∧ fd.closure = [] ∧ Z.h₀.CodeRec fd.code fd.qualname ∧ fd.globals = mainGlobals ∧ fd.builtins = builtinsNs ∧
    fd.scope.kind = .function ∧ fd.scope.isCoroutine = false ∧ fd.scope.isGenerator = false ∧ (∀ vals : List Value, vals.length = ps.length → bindArgs fd ⟨vals, []⟩ = pure (ps.zip vals)) ∧
    slotsOk fd.scope.names fn.slots ps fn.np fn.ns = true ∧ mSL P gn fd.scope.names fn.slots fn.body body = true

theorem lookup_mem {α : Type} : ∀ {l : List (Str × α)} {x : Str} {i : α}, l.lookup x = some i → (x, i) ∈ l := mem_of_lookup

theorem cellsFrom_mem : ∀ {names : List (Str × NameKind)} {n : Nat} {acc : List (Str × Addr)} {x : Str}, (x, NameKind.cell) ∈ names ∨ (acc.lookup x).isSome = true → ((cellsFrom n names acc).lookup x).isSome = true
  | [], n, acc, x, h => by
    rcases h with h | h
    · cases h
    · exact h
  | (y, k) :: r, n, acc, x, h => by
    unfold cellsFrom
    split
    · rename_i hk
      refine cellsFrom_mem ?_
      rcases h with h | h
      · rcases List.mem_cons.mp h with h | h
        · cases h; right; simp [List.lookup_cons]
        · exact .inl h
      · right; rw [List.lookup_cons]; split
        · rfl
        · exact h
    · rename_i hk
      refine cellsFrom_mem ?_
      rcases h with h | h
      · rcases List.mem_cons.mp h with h | h
        · cases h; simp at hk
        · exact .inl h
      · exact .inr h

theorem bindL_at {kindOf : Str → Option NameKind} {x : Str} (hx : kindOf x = some .local) : ∀ {ps : List Str} {vals : List Value} {m : Str → Option Value}, ps.Nodup → (∀ (i : Nat) (v : Value), ps[i]? = some x → vals[i]? = some v → bindL kindOf (ps.zip vals) m x = some v) ∧ (x ∉ ps → bindL kindOf (ps.zip vals) m x = m x)
  | [], vals, m, _ => ⟨fun i v h => by simp at h, fun _ => rfl⟩
  | p :: ps, [], m, _ => ⟨fun i v _ h => by simp at h, fun _ => rfl⟩
  | p :: ps, w :: vals, m, hn => by
    obtain ⟨h1, h2⟩ := List.nodup_cons.mp hn
    have e : ∀ y, bindL kindOf ((p :: ps).zip (w :: vals)) m y = bindL kindOf (ps.zip vals) (if kindOf p = some .local then fun y => if y = p then some w else m y else m) y := fun _ => rfl
    have ih := fun m' => bindL_at hx (ps := ps) (vals := vals) (m := m') h2
    refine ⟨fun i v hi hv => ?_, fun hx' => ?_⟩
    · rw [e]
      cases i with
      | zero =>
        simp at hi hv
        subst hi hv
        rw [(ih _).2 h1, if_pos hx]; simp
      | succ i => exact (ih _).1 i v (by simpa using hi) (by simpa using hv)
    · simp only [List.mem_cons, not_or] at hx'
      rw [e, (ih _).2 hx'.2]
      split
      · show (if x = p then some w else m x) = m x
        rw [if_neg hx'.1]
      · rfl
theorem bindC_at {kindOf : Str → Option NameKind} {x : Str} (hx : kindOf x ≠ some .local) : ∀ {ps : List Str} {vals : List Value} {m : Str → Option Value}, ps.Nodup → (∀ (i : Nat) (v : Value), ps[i]? = some x → vals[i]? = some v → bindC kindOf (ps.zip vals) m x = some v) ∧ (x ∉ ps → bindC kindOf (ps.zip vals) m x = m x)
  | [], vals, m, _ => ⟨fun i v h => by simp at h, fun _ => rfl⟩
  | p :: ps, [], m, _ => ⟨fun i v _ h => by simp at h, fun _ => rfl⟩
  | p :: ps, w :: vals, m, hn => by
    obtain ⟨h1, h2⟩ := List.nodup_cons.mp hn
    have e : ∀ y, bindC kindOf ((p :: ps).zip (w :: vals)) m y = bindC kindOf (ps.zip vals) (if kindOf p = some .local then m else fun y => if y = p then some w else m y) y := fun _ => rfl
    have ih := fun m' => bindC_at hx (ps := ps) (vals := vals) (m := m') h2
    refine ⟨fun i v hi hv => ?_, fun hx' => ?_⟩
    · rw [e]
      cases i with
      | zero =>
        simp at hi hv
        subst hi hv
        rw [(ih _).2 h1, if_neg hx]; simp
      | succ i => exact (ih _).1 i v (by simpa using hi) (by simpa using hv)
    · simp only [List.mem_cons, not_or] at hx'
      rw [e, (ih _).2 hx'.2]
      split
      · rfl
      · show (if x = p then some w else m x) = m x
        rw [if_neg hx'.1]

section
variable {Z : Cx} {P : Nat → Option Fn} {gn : Nat → Str} {G : Nat → Option PyData} {cf : Nat → List V → Store → Res V} {d : Nat}
variable {A : Around} {β β₁ : List Addr} {σ σ₁ : Store} {s s₁ s₂ : Shared}

theorem VRels.get {h : Heap} : ∀ {vs : List Value} {xs : List V}, VRels β σ h vs xs → ∀ {i : Nat} {x : V}, xs[i]? = some x → ∃ v, vs[i]? = some v ∧ VRel β σ h v x
  | _, _, .nil, i, x, e => by simp at e
  | _, _, .cons r rs, 0, x, e => by simp at e; subst e; exact ⟨_, rfl, r⟩
  | _, _, .cons r rs, i + 1, x, e => rs.get (by simpa using e)

theorem slots_facts {names : List (Str × NameKind)} {slots : List (Str × Nat)} {ps : List Str} {np ns : Nat} (h : slotsOk names slots ps np ns = true) :
    (∀ x i, slots.lookup x = some i → (names.lookup x = some .local ∨ names.lookup x = some .cell) ∧ nameOk x = true) ∧ (slots.map (·.2)).Nodup ∧ ps.length = np ∧ (∀ i x, ps[i]? = some x → slots.lookup x = some i) ∧ np ≤ ns := by
  simp only [slotsOk, Bool.and_eq_true, decide_eq_true_eq] at h
  obtain ⟨⟨⟨⟨⟨h1, h2⟩, h3⟩, h4⟩, h5⟩, h6⟩ := h
  refine ⟨fun x i hx => ?_, h2, h3, fun i x hx => ?_, h5⟩
  · have := List.all_eq_true.mp h1 (x, i) (mem_of_lookup hx)
    simpa only [Bool.and_eq_true, Bool.or_eq_true, decide_eq_true_eq] using this
  · have := List.all_eq_true.mp h4 (x, i) (by
      rw [List.mem_zipIdx_iff_getElem?]; exact hx)
    simpa using this
theorem ps_nodup {slots : List (Str × Nat)} {ps : List Str} (h : ∀ i x, ps[i]? = some x → slots.lookup x = some i) : ps.Nodup := by
  unfold List.Nodup
  rw [List.pairwise_iff_getElem]
  intro i j hi hj hij e
  have h1 := h i _ (List.getElem?_eq_getElem hi)
  have h2 := h j _ (List.getElem?_eq_getElem hj)
  rw [e, h2] at h1
  have := Option.some.inj h1; omega

theorem callFrame {fd : FuncData} {fn : Fn} {ps : List Str} {a : Addr} {vals : List Value} {xs : List V} (hs : slotsOk fd.scope.names fn.slots ps fn.np fn.ns = true) (hk : fd.scope.kind = .function) (hg : fd.globals = mainGlobals) (hb : fd.builtins = builtinsNs)
    (I : Inv Z β σ s.heap) (r : VRels β σ s.heap vals xs) (hl : xs.length = fn.np)
    (x : InCallC s (callEnvC fd s.heap.objs.size a).locals (bindL (callEnvC fd s.heap.objs.size a).kindOf (ps.zip vals) fun _ => none) (callEnvC fd s.heap.objs.size a).cells (bindC (callEnvC fd s.heap.objs.size a).kindOf (ps.zip vals) fun _ => none) s₁) :
    FrameOk Z (callEnvC fd s.heap.objs.size a) fd.scope.names fn.slots (xs ++ List.replicate (fn.ns - fn.np) .un) β σ s₁.heap ∧ Step (own (callEnvC fd s.heap.objs.size a)) β σ s β σ s₁ ∧ Inv Z β σ s₁.heap ∧ ∀ y, own (callEnvC fd s.heap.objs.size a) y → s.heap.get? y = none := by
  obtain ⟨f1, f2, f3, f4, f5⟩ := slots_facts hs
  have pn := ps_nodup f4
  obtain ⟨h', tk, rfl, hkeep⟩ := x.done
  have S : Step (own (callEnvC fd s.heap.objs.size a)) β σ s β σ { s with heap := h', toks := tk } := Step.grow hkeep rfl rfl
  have Sn : Step noO β σ s β σ { s with heap := h', toks := tk } := Step.grow hkeep rfl rfl
  have fresh : ∀ y, own (callEnvC fd s.heap.objs.size a) y → s.heap.get? y = none := fun y hy => by
    rcases hy with rfl | ⟨n, hn⟩
    · exact fresh_ge x.toInCall.fresh
    · exact fresh_ge (Nat.le_of_lt (Nat.lt_of_le_of_lt x.toInCall.fresh (x.above n y (mem_of_lookup hn))))
  have argAt : ∀ {x : Str} {i : Nat} {v : V}, fn.slots.lookup x = some i → (xs ++ List.replicate (fn.ns - fn.np) .un)[i]? = some v → v ≠ .un → ps[i]? = some x ∧ ∃ w, vals[i]? = some w ∧ VRel β σ h' w v := by
    intro x i v hx hv hu
    have hi : i < fn.np := by
      rcases Nat.lt_or_ge i fn.np with q | q
      · exact q
      · rw [List.getElem?_append_right (by omega)] at hv
        have := List.mem_of_getElem? hv
        rw [List.mem_replicate] at this
        exact absurd this.2 hu
    rw [List.getElem?_append_left (by omega)] at hv
    obtain ⟨w, h1, h2⟩ := r.get hv
    have hp : i < ps.length := by omega
    have h3 := f4 i _ (List.getElem?_eq_getElem hp)
    have h4 := nodup_inj f2 hx h3
    exact ⟨by rw [List.getElem?_eq_getElem hp, h4], w, h1, Sn.vrel0 h2⟩
  refine ⟨⟨hk, hg, hb, fun y k hy => .inl hy, fun y i hy => ?_, fun y z i hy hz => nodup_inj f2 hy hz, ⟨_, x.toInCall.ns, fun y i hy hl v hv hu => ?_⟩, fun y c hc => ⟨_, x.cell y c hc, fun i hy hk' v hv hu => ?_⟩, fun y hy => ?_, fun y z c hy hz => name_of_addr x.apart (mem_of_lookup hy) (mem_of_lookup hz), fun y hy => ?_⟩, S, I.grow hkeep, fresh⟩
  · obtain ⟨h1, h2⟩ := f1 y i hy
    refine ⟨?_, (nameOk_ok h2).2⟩
    rcases h1 with h1 | h1
    · exact .inl h1
    · exact .inr ⟨.inl h1, Option.isSome_iff_exists.mp (cellsFrom_mem (.inl (mem_of_lookup h1)))⟩
  · obtain ⟨h1, w, h2, h3⟩ := argAt hy hv hu
    exact ⟨w, (bindL_at hl pn).1 i w h1 h2, h3⟩
  · obtain ⟨h1, w, h2, h3⟩ := argAt hy hv hu
    exact ⟨w, (bindC_at (by rcases hk' with q | q <;> rw [q] <;> simp) pn).1 i w h1 h2, h3⟩
  · refine ⟨I.notMem (fresh y hy), ?_⟩
    cases q : Z.h₀.get? y with
    | none => rfl
    | some o => have := I.base y o q; rw [fresh y hy] at this; cases this
  · exact Nat.lt_irrefl _ (x.above y _ (mem_of_lookup hy))

theorem exit_sound {O : Addr → Prop} {v : V} {w : Value} {v' : V} {σ' : Store} (S : Step O β σ s β₁ σ₁ s₁) (I : Inv Z β σ s.heap) (I₁ : Inv Z β₁ σ₁ s₁.heap) (r : VRel β₁ σ₁ s₁.heap w v) (h : exitV σ.length v σ₁ = .ok v' σ') : ∃ β', Step O β σ s β' σ' s₁ ∧ Inv Z β' σ' s₁.heap ∧ VRel β' σ' s₁.heap w v' := by
  have hl := I.len
  unfold exitV at h
  split at h
  · cases h
    exact ⟨_, S.take hl I₁.len, I₁.take _, takeRel r⟩
  · rename_i k
    obtain ⟨a, hb, rfl⟩ := r
    split at h
    · rename_i hk
      cases h
      exact ⟨_, S.take hl I₁.len, I₁.take _, a, by rw [List.getElem?_take, if_pos hk]; exact hb, rfl⟩
    · rename_i hk
      have hlen : (β₁.take σ.length).length = σ.length := by
        obtain ⟨e, q, _⟩ := S.ext
        rw [q]; simp; omega
      split at h
      · rename_i l hc
        cases h
        have E := exitBox S hl I₁ (by omega) hb hc
        exact ⟨_, E.1, E.2, a, by rw [List.getElem?_append_right (by omega), hlen]; simp, rfl⟩
      · rename_i l hc
        cases h
        have E := exitBox S hl I₁ (by omega) hb hc
        exact ⟨_, E.1, E.2, a, by rw [List.getElem?_append_right (by omega), hlen]; simp, rfl⟩
      · cases h
  · cases h

structure Static (Z : Cx) (p : Prog) (gn : Nat → Str) : Prop where
  w : World0 Z
  y : Sys Z
  b : BiOk Z
  g : ∀ k x, p.G k = some x → ∃ v, Z.mg (gn k) = some v ∧ ∀ T h, Rel T h v x
  f : ∀ i fn, p.P i = some fn → FnOk Z p.P gn fn

theorem world_ok (Z : Cx) (p : Prog) (gn : Nat → Str) (T : Static Z p gn) : ∀ d, Wd Z p.P gn p.G (callF p d) d
  | 0 => ⟨T.w, T.y, T.b, T.g, fun f fn hf => by
    obtain ⟨a, o, fd, body, ps, h1, h2, h3, _⟩ := (T.f f fn hf).ex
    exact ⟨a, o, fd, h1, h2, h3, fun A β σ s vs xs _ _ _ => Ev.bad⟩⟩
  | d + 1 => ⟨T.w, T.y, T.b, T.g, fun f fn hf => by
    have ih := world_ok Z p gn T d
    obtain ⟨a, o, fd, body, ps, h1, h2, h3, h4, h5, h6, h7, h8, h9, h10, h11, h12, h13, h14⟩ := (T.f f fn hf).ex
    refine ⟨a, o, fd, h1, h2, h3, fun A β σ s vs xs hA I r c σ' ev => ?_⟩
    unfold callF at ev
    rw [hf] at ev
    dsimp only at ev
    split at ev
    · rename_i hl
      obtain ⟨out, σ₁, e1, e2⟩ := Res.bind_ok ev
      obtain ⟨f1, f2, f3, f4, f5⟩ := slots_facts h13
      have hvl : vs.length = ps.length := by rw [vrels_length r, hl, f3]
      obtain ⟨k1, k2, k3⟩ := T.w.keeps I
      have hcode : s.heap.CodeRec fd.code fd.qualname := h6.keeps I.base
      refine wpAny_call (codeAny_call_cells (by have := hA.2.1; omega) (I.base a o h2) h3 k3 hcode h4 (h12 vs hvl) h5 (fun y hy => ?_) (fun s₁ x => ?_) h10 h11 h9)
      · obtain ⟨i, hi⟩ := List.getElem?_of_mem (List.of_mem_zip hy).1
        rcases (f1 _ i (f4 i _ hi)).1 with q | q
        · exact .inl q
        · exact .inr ⟨q, cellsFrom_mem (.inl (mem_of_lookup q))⟩
      · obtain ⟨Fr, S, I₁, fresh⟩ := callFrame h13 h9 h7 h8 I r hl x
        refine wpAny_mono (okSL ih fn.body _ _ body _ _ _ β σ s₁ h14 (hA.deeper _) Fr I₁ out σ₁ e1) (fun fl s₂ ⟨β₂, S₂, I₂, q⟩ => ?_) fun _ _ x => x.elim
        have S' := (S.trans S₂).drop fresh
        cases out with
        | next ρ' =>
          obtain ⟨rfl, _⟩ := q
          exact exit_sound S' I I₂ (v := .d .none) .none e2
        | ret v =>
          obtain ⟨w, rfl, q⟩ := q
          exact exit_sound S' I I₂ q e2
    · cases ev⟩
end
end Mine

set_option autoImplicit false
set_option linter.unusedVariables false
namespace Mine
open PySem PySem.Calls

theorem fm_congr {α γ : Type} {f g : α → Option γ} : ∀ {l : List α}, (∀ n ∈ l, f n = g n) → l.filterMap f = l.filterMap g
  | [], _ => rfl
  | a :: l, h => by rw [List.filterMap_cons, List.filterMap_cons, h a (List.mem_cons_self ..), fm_congr fun n hn => h n (List.mem_cons_of_mem _ hn)]
theorem zip_lookup : ∀ {ps : List Str} {vals : List Value}, ps.Nodup → vals.length = ps.length → (∀ n ∈ ps, ((ps.zip vals).lookup n).isSome = true) ∧ (ps.filterMap fun n => ((ps.zip vals).lookup n).map (n, ·)) = ps.zip vals
  | [], [], _, _ => ⟨(fun n h => by cases h), rfl⟩
  | [], _ :: _, _, h => by simp at h
  | _ :: _, [], _, h => by simp at h
  | p :: ps, v :: vals, hn, hl => by
    obtain ⟨h1, h2⟩ := List.nodup_cons.mp hn
    have ih := zip_lookup h2 (by simpa using hl)
    refine ⟨fun n hm => ?_, ?_⟩
    · rw [List.zip_cons_cons, List.lookup_cons]
      split
      · rfl
      · rename_i hne
        rcases List.mem_cons.mp hm with rfl | hm
        · simp at hne
        · exact ih.1 n hm
    · rw [List.zip_cons_cons, List.filterMap_cons, List.lookup_cons]
      simp only [beq_self_eq_true, Option.map_some]
      rw [fm_congr (g := fun n => ((ps.zip vals).lookup n).map (n, ·)) fun n hm => ?_, ih.2]
      rw [List.lookup_cons]
      have : (n == p) = false := by
        simp only [beq_eq_false_iff_ne]
        rintro rfl; exact h1 hm
      rw [this]

theorem bind_plain {name : Str} {as : List Arg} {body : List Stmt} {scope : Scope} {pm code doc : Value} {vals : List Value} (hn : (as.map (·.arg)).Nodup) (hl : vals.length = (as.map (·.arg)).length) :
    bindArgs (docDef name ⟨[], as, none, [], [], none, []⟩ body scope pm code doc) ⟨vals, []⟩ = pure ((as.map (·.arg)).zip vals) := by
  obtain ⟨z1, z2⟩ := zip_lookup hn hl
  have hm : (as.map (·.arg)).filter (fun n => (((as.map (·.arg)).zip vals).lookup n).isNone) = [] := by
    rw [List.filter_eq_nil_iff]
    intro n hn
    have := z1 n hn
    simp [Option.isNone_iff_eq_none, Option.isSome_iff_ne_none] at this ⊢
    exact this
  have hsq : seqItems? Value.none = pure none := rfl
  unfold bindArgs
  simp only [docDef, List.map_nil, List.nil_append, List.forIn_nil, hsq, hl, List.append_nil, pure_bind, Option.getD_none, List.drop_nil, List.length_nil, Nat.sub_zero, List.take_length, hm]
  simp
  rw [← List.filterMap_map, z2]
end Mine

set_option autoImplicit false
set_option linter.unusedVariables false
set_option maxRecDepth 100000
namespace Mine
open PySem PySem.Calls

noncomputable def plainParams (a : Arguments) : Bool := match a with
  | ⟨[], _, none, [], [], none, []⟩ => true
  | _ => false
noncomputable def checkFn (rs : List DefRec) (P : Nat → Option Fn) (gn : Nat → Str) (fn : Fn) : Bool := match rs.find? fun r => decide (r.name = fn.name) with
  | none => false
  | some r => plainParams r.params && decide (r.scope.kind = .function) && !r.scope.isCoroutine && !r.scope.isGenerator && slotsOk r.scope.names fn.slots (r.params.args.map (·.arg)) fn.np fn.ns && mSL P gn r.scope.names fn.slots fn.body r.body

theorem fnOk_of {view : Program} {Z : Cx} {P : Nat → Option Fn} {gn : Nat → Str} {fn : Fn} (TA : ∀ e : PyProof.Rows.DefItem, e ∈ List.map PySem.W.itemOf (PyProof.Rows.recsOf view) → e.params.defaults = [] → e.At Z.mg Z.h₀)
    (h : checkFn (PyProof.Rows.recsOf view) P gn fn = true) : FnOk Z P gn fn := by
  unfold checkFn at h
  split at h
  · cases h
  · rename_i r hr
    simp only [Bool.and_eq_true, decide_eq_true_eq, Bool.not_eq_true'] at h
    obtain ⟨⟨⟨⟨⟨h1, h2⟩, h3⟩, h4⟩, h5⟩, h6⟩ := h
    have hm := List.mem_of_find?_eq_some hr
    have hn : r.name = fn.name := by simpa using List.find?_some hr
    have hp : r.params = ⟨[], r.params.args, none, [], [], none, []⟩ := by
      unfold plainParams at h1
      split at h1
      · rename_i heq; rw [heq]
      · cases h1
    obtain ⟨a, c, P', o, pm, doc, q1, q2, q3, q4, _⟩ := TA (PySem.W.itemOf r) (List.mem_map.mpr ⟨r, hm, rfl⟩) (by show r.params.defaults = []; rw [hp])
    obtain ⟨f1, f2, f3, f4, f5⟩ := slots_facts h5
    refine ⟨a, o, _, r.body, r.params.args.map (·.arg), hn ▸ q1, q2, q3, rfl, rfl, q4, rfl, rfl, h2, h3, h4, fun vals hl => ?_, h5, h6⟩
    show bindArgs (docDef r.name r.params r.body r.scope pm (.ref c) doc) ⟨vals, []⟩ = _
    rw [hp]
    exact bind_plain (ps_nodup f4) hl

noncomputable def biNames : List Str := ["len", "list", "dict", "int", "max", "tuple", "sorted", "", "any", "all", "isinstance", "bool", "str", "range"]
noncomputable def freeNames (names : List Str) : Bool := biNames.all fun x => !names.contains x && !PySem.bootMainNames.contains x

theorem bi_mem (b : Bi) : biStr b ∈ biNames := by
  cases b <;> first | decide | exact (by decide : ("isinstance" : Str) ∈ biNames)
theorem bi_ne (b : Bi) : biStr b ≠ "__name__" := by
  cases b <;> first | decide | exact (by decide : ("isinstance" : Str) ≠ "__name__")
theorem static_of {view prog : Program} {w : World} {s₁ : Shared} {mg mb : Str → Option Value} {consts : List (Str × PyData)} {names : List Str} {p : Prog} {gn : Nat → Str} {fns : List Fn}
    (GL : PyProof.Rows.Glob 0 mg mb (List.map PySem.W.itemOf (PyProof.Rows.recsOf view)) consts [] names s₁.heap)
    (TA : ∀ e : PyProof.Rows.DefItem, e ∈ List.map PySem.W.itemOf (PyProof.Rows.recsOf view) → e.params.defaults = [] → e.At mg s₁.heap)
    (hP : p.P = fun n => fns[n]?) (hchk : (fns.all fun fn => checkFn (PyProof.Rows.recsOf view) p.P gn fn) = true) (hfree : freeNames names = true)
    (hg : ∀ k x, p.G k = some x → ∃ v, mg (gn k) = some v ∧ ∀ T h, Rel T h v x) : Static ⟨prog, w, s₁.heap, mg, mb⟩ p gn := by
  have fr : ∀ x ∈ biNames, mg x = none := fun x hx => by
    have := List.all_eq_true.mp hfree x hx
    simp only [Bool.and_eq_true, Bool.not_eq_true', List.contains_eq_mem, decide_eq_false_iff_not] at this
    exact GL.free x this.1 this.2
  have bt : ∀ x : Str, x ≠ "__name__" → mb x = bootBuiltins x := GL.builtins
  refine ⟨⟨GL.g, GL.b, GL.nolimit⟩, ?_, ⟨fun b => ⟨?_, fun hb => ?_⟩, fun t => ⟨?_, ?_⟩, fr _ (by decide), ?_⟩, hg, fun i fn hf => ?_⟩
  · obtain ⟨mm, ⟨o, es, ep, e, _⟩, _⟩ := GL.seer.mods
    exact ⟨o, e⟩
  · exact fr _ (bi_mem b)
  · show mb (biStr b) = _
    rw [bt _ (bi_ne b)]
    cases b <;> first | rfl | (exfalso; rcases hb with hb | ⟨t, hb⟩ <;> cases hb)
  · exact fr _ (by cases t <;> decide)
  · show mb (tyStr t) = _
    rw [bt _ (by cases t <;> decide)]
    cases t <;> rfl
  · show mb "range" = _
    rw [bt _ (by decide)]
    rfl
  · rw [hP] at hf
    exact fnOk_of (Z := ⟨prog, w, s₁.heap, mg, mb⟩) TA (List.all_eq_true.mp hchk fn (List.mem_of_getElem? hf))

theorem script_rel {Pm : Params} {h : Heap} {a : Addr} {T : Addr → Prop} {l : List Int} (hT : ¬ T a) (hl : l.length ≤ LIM) (hw : PySem.W.Well Pm h (.ref a) (PySem.W.ofPy (.list (l.map .int)))) : Rel T h (.ref a) (.list (l.map .int)) := by
  have all : ∀ {l : List Int} {vs : List Value}, PySem.W.WellAll Pm h vs (PySem.W.ofPys (l.map .int)) → RelAll T h vs (l.map .int) := by
    intro l
    induction l with
    | nil => intro vs w; cases w; exact .nil
    | cons i l ih =>
      intro vs w
      cases w with
      | cons w ws =>
        cases w
        exact .cons (.int _ _) (ih ws)
  cases hw with
  | list e ws =>
    exact .list (n := 0) e hT (by simpa using hl) (by simpa using all ws)

theorem aok_caller {d : Nat} (h : d ≤ 600) : AOk d callerA := ⟨rfl, by show 1 + claimMargin + d < recursionLimit; unfold claimMargin recursionLimit; omega, by show 4 + 8 * d + 200 < cLine; unfold cLine; omega⟩

theorem run_law {prog : Program} {w : PySem.World} {s₁ : Shared} {mg mb : Str → Option Value} {p : Prog} {gn : Nat → Str} {i : Nat} {fn : Fn} {fa a : Addr} {l : List Int} {d : Nat} {σ' : Store} (T : Static ⟨prog, w, s₁.heap, mg, mb⟩ p gn) (hf : p.P i = some fn) (hmg : mg fn.name = some (.ref fa))
    (hw : PySem.W.Well w.params s₁.heap (.ref a) (PySem.W.ofPy (.list (l.map .int)))) (hl : l.length ≤ LIM) (hd : d ≤ 600) (hrun : callF p d i [.d (.list (l.map .int))] [] = .ok (.d (.bool true)) σ') {Q E : Value → Shared → Prop}
    (q : ∀ s', (∀ b o, s₁.heap.get? b = some o → s'.heap.get? b = some o) → s'.os = s₁.os → s'.gens = s₁.gens → Q (.bool true) s') : wpAny (model prog w) callerA (call (.ref fa) [.ref a]) Q E s₁ := by
  obtain ⟨a', o, fd, h1, _, _, hc⟩ := (world_ok _ p gn T d).c i fn hf
  have : a' = fa := by
    have h1 : mg fn.name = some (.ref a') := h1
    rw [hmg] at h1; cases h1; rfl
  subst this
  have I : Inv ⟨prog, w, s₁.heap, mg, mb⟩ [] [] s₁.heap := ⟨rfl, .nil, fun _ _ e => e, (fun _ h => by cases h), fun k a c h => by simp at h⟩
  have hr : VRels [] [] s₁.heap [.ref a] [.d (.list (l.map .int))] := .cons (script_rel (fun ⟨k, c, h, _⟩ => by simp at h) hl hw) .nil
  refine wpAny_mono (hc callerA [] [] s₁ _ _ (aok_caller hd) I hr _ _ hrun) (fun v s' ⟨β', S, I', rv⟩ => ?_) fun _ _ x => x.elim
  cases rv
  exact q s' (fun b o e => S.keep b o e (fun ⟨k, c, h, _⟩ => by simp at h) id) S.os S.gens

noncomputable def flatGood : PyData → Bool
  | .int _ => true
  | .str y => goodB y
  | _ => false
theorem globs_of {mg mb : Str → Option Value} {ds : List PyProof.Rows.DefItem} {consts : List (Str × PyData)} {names : List Str} {h₁ : Heap} {p : Prog} {gn : Nat → Str} (GL : PyProof.Rows.Glob 0 mg mb ds consts [] names h₁)
    (h : ∀ k x, p.G k = some x → (gn k, x) ∈ consts ∧ flatGood x = true) : ∀ k x, p.G k = some x → ∃ v, mg (gn k) = some v ∧ ∀ T h, Rel T h v x := fun k x hk => by
  obtain ⟨h1, h2⟩ := h k x hk
  obtain ⟨v, q1, q2⟩ := GL.bound _ h1
  refine ⟨v, q1, fun T h => ?_⟩
  have r : Reads h v x [] := q2 h
  cases x with
  | int i => cases r; exact .int _ _
  | str y => cases r; exact .str _ _ (goodB_ok h2)
  | _ => cases h2
noncomputable def gnames : Nat → Str
  | 0 => "REST"
  | 1 => "LETTERS"
  | _ => "LONGEST"
end Mine

set_option autoImplicit false
namespace Mine.L03
open PySem Mine
/-! ## the tables of the text (printed by gen.py) -/
noncomputable def s_name : Str := ⟨#[110, 97, 109, 101]⟩
noncomputable def s_num : Str := ⟨#[110, 117, 109]⟩
noncomputable def s_set : Str := ⟨#[115, 101, 116]⟩
noncomputable def s_tell : Str := ⟨#[116, 101, 108, 108]⟩
noncomputable def s_when : Str := ⟨#[119, 104, 101, 110]⟩
noncomputable def s_call : Str := ⟨#[99, 97, 108, 108]⟩
noncomputable def s_again : Str := ⟨#[97, 103, 97, 105, 110]⟩
noncomputable def s_abcdefghijklmnopqrstuvwxyz : Str := ⟨#[97, 98, 99, 100, 101, 102, 103, 104, 105, 106, 107, 108, 109, 110, 111, 112, 113, 114, 115, 116, 117, 118, 119, 120, 121, 122]⟩
noncomputable def s_sum : Str := ⟨#[115, 117, 109]⟩
noncomputable def s_less : Str := ⟨#[108, 101, 115, 115]⟩
noncomputable def s_times : Str := ⟨#[116, 105, 109, 101, 115]⟩
noncomputable def s_more : Str := ⟨#[109, 111, 114, 101]⟩
abbrev i_gather : Nat := 0
abbrev i_names_in : Nat := 1
abbrev i_own_terms : Nat := 2
abbrev i_own_names : Nat := 3
abbrev i_own_set : Nat := 4
abbrev i_surely_in : Nat := 5
abbrev i_surely_set : Nat := 6
abbrev i_first_in : Nat := 7
abbrev i_first_read : Nat := 8
abbrev i_law_cell : Nat := 9
abbrev i_law_mixed : Nat := 10
abbrev i_law_words : Nat := 11
abbrev i_law_term : Nat := 12
abbrev i_law_given : Nat := 13
abbrev i_law_call : Nat := 14
abbrev i_law_row : Nat := 15
abbrev i_law_rows : Nat := 16
abbrev i_law_looped : Nat := 17
abbrev i_law_function : Nat := 18
abbrev i_law_variables : Nat := 19
abbrev i_law_program : Nat := 20
abbrev i_law_names : Nat := 21
abbrev i_law_own : Nat := 22
abbrev i_law_target : Nat := 23
abbrev i_law_block : Nat := 24
abbrev i_law_places : Nat := 25
abbrev i_law_scan : Nat := 26
abbrev i_law_all : Nat := 27
abbrev i_law_list : Nat := 28
abbrev i_law : Nat := 29
noncomputable def b_gather : SL :=
  .cons (.ite (.cmp .eq (.idx (.var 0) (.int 0)) (.str s_name))
    (.cons (.ite (.cmp .notIn (.idx (.var 0) (.int 1)) (.var 1))
      (.cons (.expr (.meth .append (.var 1) (.cons (.idx (.var 0) (.int 1)) (.nil)))) (
      .nil))
      (.nil)) (
    .nil))
    (.cons (.ite (.cmp .ne (.idx (.var 0) (.int 0)) (.str s_num))
      (.cons (.expr (.call i_gather (.cons (.idx (.var 0) (.int 1)) (.cons (.var 1) (.nil))))) (
      .cons (.expr (.call i_gather (.cons (.idx (.var 0) (.int 2)) (.cons (.var 1) (.nil))))) (
      .nil)))
      (.nil)) (
    .nil))) (
  .nil)
noncomputable def f_gather : Fn := { name := ⟨#[103, 97, 116, 104, 101, 114]⟩, np := 2, slots := [(⟨#[116, 101, 114, 109]⟩, 0), (⟨#[102, 111, 117, 110, 100]⟩, 1)], ns := 2, body := b_gather }
noncomputable def b_names_in : SL :=
  .cons (.asg (.var 1) (.list true (.nil))) (
  .cons (.expr (.call i_gather (.cons (.var 0) (.cons (.var 1) (.nil))))) (
  .cons (.ret (.freeze (.var 1))) (
  .nil)))
noncomputable def f_names_in : Fn := { name := ⟨#[110, 97, 109, 101, 115, 95, 105, 110]⟩, np := 1, slots := [(⟨#[116, 101, 114, 109]⟩, 0), (⟨#[102, 111, 117, 110, 100]⟩, 1)], ns := 2, body := b_names_in }
noncomputable def b_own_terms : SL :=
  .cons (.ite (.cmp .eq (.idx (.var 0) (.int 0)) (.str s_set))
    (.cons (.ret (.list false (.cons (.idx (.var 0) (.int 2)) (.nil)))) (
    .nil))
    (.nil)) (
  .cons (.ite (.bop false (.cons (.cmp .eq (.idx (.var 0) (.int 0)) (.str s_tell)) (.cons (.cmp .eq (.idx (.var 0) (.int 0)) (.str s_when)) (.nil))))
    (.cons (.ret (.list false (.cons (.idx (.var 0) (.int 1)) (.nil)))) (
    .nil))
    (.nil)) (
  .cons (.ite (.cmp .eq (.idx (.var 0) (.int 0)) (.str s_call))
    (.cons (.ret (.bi .list false (.cons (.idx (.var 0) (.int 3)) (.nil)))) (
    .nil))
    (.nil)) (
  .cons (.ret (.list false (.nil))) (
  .nil))))
noncomputable def f_own_terms : Fn := { name := ⟨#[111, 119, 110, 95, 116, 101, 114, 109, 115]⟩, np := 1, slots := [(⟨#[114, 111, 119]⟩, 0)], ns := 1, body := b_own_terms }
noncomputable def b_own_names : SL :=
  .cons (.asg (.var 1) (.dict0)) (
  .cons (.forr (.var 2) (.seq (.call i_own_terms (.cons (.var 0) (.nil))))
    (.cons (.forr (.var 3) (.seq (.call i_names_in (.cons (.var 2) (.nil))))
      (.cons (.put (.var 1) (.var 3) (.bool true)) (
      .nil))) (
    .nil))) (
  .cons (.ret (.bi .list false (.cons (.var 1) (.nil)))) (
  .nil)))
noncomputable def f_own_names : Fn := { name := ⟨#[111, 119, 110, 95, 110, 97, 109, 101, 115]⟩, np := 1, slots := [(⟨#[114, 111, 119]⟩, 0), (⟨#[102, 111, 117, 110, 100]⟩, 1), (⟨#[116, 101, 114, 109]⟩, 2), (⟨#[110, 97, 109, 101]⟩, 3)], ns := 4, body := b_own_names }
noncomputable def b_own_set : SL :=
  .cons (.ite (.bop false (.cons (.cmp .eq (.idx (.var 0) (.int 0)) (.str s_set)) (.cons (.cmp .eq (.idx (.var 0) (.int 0)) (.str s_call)) (.nil))))
    (.cons (.ret (.idx (.var 0) (.int 1))) (
    .nil))
    (.nil)) (
  .cons (.ret (.none)) (
  .nil))
noncomputable def f_own_set : Fn := { name := ⟨#[111, 119, 110, 95, 115, 101, 116]⟩, np := 1, slots := [(⟨#[114, 111, 119]⟩, 0)], ns := 1, body := b_own_set }
noncomputable def b_surely_in : SL :=
  .cons (.asg (.var 1) (.dict0)) (
  .cons (.forr (.var 2) (.seq (.var 0))
    (.cons (.ite (.cmp .isNotN (.call i_own_set (.cons (.var 2) (.nil))) (.none))
      (.cons (.put (.var 1) (.call i_own_set (.cons (.var 2) (.nil))) (.bool true)) (
      .nil))
      (.nil)) (
    .cons (.ite (.bop true (.cons (.cmp .eq (.idx (.var 2) (.int 0)) (.str s_again)) (.cons (.cmp .gt (.idx (.var 2) (.int 1)) (.int 0)) (.nil))))
      (.cons (.expr (.meth .update (.var 1) (.cons (.call i_surely_in (.cons (.idx (.var 2) (.int 2)) (.nil))) (.nil)))) (
      .nil))
      (.nil)) (
    .nil)))) (
  .cons (.ret (.var 1)) (
  .nil)))
noncomputable def f_surely_in : Fn := { name := ⟨#[115, 117, 114, 101, 108, 121, 95, 105, 110]⟩, np := 1, slots := [(⟨#[114, 111, 119, 115]⟩, 0), (⟨#[102, 111, 117, 110, 100]⟩, 1), (⟨#[114, 111, 119]⟩, 2)], ns := 3, body := b_surely_in }
noncomputable def b_surely_set : SL :=
  .cons (.ret (.bi .sorted true (.cons (.bi .list false (.cons (.call i_surely_in (.cons (.var 0) (.nil))) (.nil))) (.nil)))) (
  .nil)
noncomputable def f_surely_set : Fn := { name := ⟨#[115, 117, 114, 101, 108, 121, 95, 115, 101, 116]⟩, np := 1, slots := [(⟨#[114, 111, 119, 115]⟩, 0)], ns := 1, body := b_surely_set }
noncomputable def b_first_in : SL :=
  .cons (.asg (.var 1) (.dict0)) (
  .cons (.asg (.var 2) (.dict0)) (
  .cons (.forr (.var 3) (.seq (.var 0))
    (.cons (.asg (.var 4) (.call i_own_names (.cons (.var 3) (.nil)))) (
    .cons (.ite (.bop false (.cons (.cmp .eq (.idx (.var 3) (.int 0)) (.str s_when)) (.cons (.bop true (.cons (.cmp .eq (.idx (.var 3) (.int 0)) (.str s_again)) (.cons (.cmp .gt (.idx (.var 3) (.int 1)) (.int 0)) (.nil)))) (.nil))))
      (.cons (.asg (.var 4) (.bin .add false (.var 4) (.bi .list false (.cons (.call i_first_in (.cons (.idx (.var 3) (.int 2)) (.nil))) (.nil))))) (
      .nil))
      (.nil)) (
    .cons (.forr (.var 5) (.seq (.var 4))
      (.cons (.ite (.cmp .notIn (.var 5) (.var 2))
        (.cons (.put (.var 1) (.var 5) (.bool true)) (
        .nil))
        (.nil)) (
      .nil))) (
    .cons (.expr (.meth .update (.var 2) (.cons (.call i_surely_in (.cons (.tup (.cons (.var 3) (.nil))) (.nil))) (.nil)))) (
    .nil)))))) (
  .cons (.ret (.var 1)) (
  .nil))))
noncomputable def f_first_in : Fn := { name := ⟨#[102, 105, 114, 115, 116, 95, 105, 110]⟩, np := 1, slots := [(⟨#[114, 111, 119, 115]⟩, 0), (⟨#[102, 111, 117, 110, 100]⟩, 1), (⟨#[107, 110, 111, 119, 110]⟩, 2), (⟨#[114, 111, 119]⟩, 3), (⟨#[110, 97, 109, 101, 115]⟩, 4), (⟨#[110, 97, 109, 101]⟩, 5)], ns := 6, body := b_first_in }
noncomputable def b_first_read : SL :=
  .cons (.ret (.bi .sorted true (.cons (.bi .list false (.cons (.call i_first_in (.cons (.var 0) (.nil))) (.nil))) (.nil)))) (
  .nil)
noncomputable def f_first_read : Fn := { name := ⟨#[102, 105, 114, 115, 116, 95, 114, 101, 97, 100]⟩, np := 1, slots := [(⟨#[114, 111, 119, 115]⟩, 0)], ns := 1, body := b_first_read }
noncomputable def b_law_cell : SL :=
  .cons (.asg (.var 2) (.ite (.cmp .lt (.var 1) (.bi .len false (.cons (.var 0) (.nil)))) (.idx (.var 0) (.var 1)) (.int 0))) (
  .cons (.asg (.var 3) (.bin .mod false (.bin .mul false (.bin .add false (.bin .mod false (.var 2) (.int 2147483629)) (.bin .mul false (.int 7919) (.bin .add false (.var 1) (.int 1)))) (.int 48271)) (.int 2147483647))) (
  .cons (.asg (.var 3) (.bin .mod false (.bin .mul false (.bin .mod false (.bin .mul false (.var 3) (.var 3)) (.int 2147483629)) (.int 69621)) (.int 2147483647))) (
  .cons (.ret (.bin .add false (.bin .mul false (.bin .add false (.bin .mul false (.bin .fdiv false (.var 2) (.int 2147483629)) (.int 2147483647)) (.var 3)) (.int 2147483629)) (.bin .mod false (.bin .mul false (.var 3) (.var 3)) (.int 2147483629)))) (
  .nil))))
noncomputable def f_law_cell : Fn := { name := ⟨#[95, 108, 97, 119, 95, 99, 101, 108, 108]⟩, np := 2, slots := [(⟨#[95, 108, 97, 119, 95, 115, 99, 114, 105, 112, 116]⟩, 0), (⟨#[95, 108, 97, 119, 95, 107]⟩, 1), (⟨#[95, 108, 97, 119, 95, 99, 101, 108, 108, 95, 104, 101, 114, 101]⟩, 2), (⟨#[95, 108, 97, 119, 95, 109, 97, 114, 107]⟩, 3)], ns := 4, body := b_law_cell }
noncomputable def b_law_mixed : SL :=
  .cons (.asg (.var 2) (.bin .mod false (.bin .add false (.bin .mul false (.var 0) (.int 48271)) (.bin .mul false (.bin .add false (.var 1) (.int 1)) (.int 1299721))) (.int 2147483647))) (
  .cons (.ret (.bin .mod false (.bin .mul false (.var 2) (.bin .add false (.bin .mod false (.bin .fdiv false (.var 2) (.int 7)) (.int 65536)) (.int 3))) (.int 2147483647))) (
  .nil))
noncomputable def f_law_mixed : Fn := { name := ⟨#[95, 108, 97, 119, 95, 109, 105, 120, 101, 100]⟩, np := 2, slots := [(⟨#[95, 108, 97, 119, 95, 99, 101, 108, 108, 95, 104, 101, 114, 101]⟩, 0), (⟨#[95, 108, 97, 119, 95, 107]⟩, 1), (⟨#[95, 108, 97, 119, 95, 109, 97, 114, 107]⟩, 2)], ns := 3, body := b_law_mixed }
noncomputable def b_law_words : SL :=
  .cons (.asg (.var 2) (.str s_abcdefghijklmnopqrstuvwxyz)) (
  .cons (.asg (.var 3) (.bin .mul false (.idx (.var 2) (.bin .mod false (.var 0) (.int 26))) (.bin .add false (.int 1) (.bin .mod false (.bin .fdiv false (.var 0) (.int 26)) (.int 8))))) (
  .cons (.asg (.var 4) (.bin .mod false (.bin .fdiv false (.var 0) (.int 208)) (.bi .len false (.cons (.var 3) (.nil))))) (
  .cons (.ite (.cmp .eq (.bin .mod false (.bin .fdiv false (.var 0) (.int 1664)) (.int 3)) (.int 1))
    (.cons (.ret (.comp false (.var 5) (.range (.var 1)) .no (.bin .mul false (.idx (.var 2) (.bin .mod false (.var 0) (.int 26))) (.bin .add false (.int 1) (.var 5))))) (
    .nil))
    (.nil)) (
  .cons (.ret (.comp false (.var 6) (.range (.var 1)) .no (.bin .add false (.bin .add false (.slc false (.var 3) .no (.yes (.var 4))) (.idx (.var 2) (.bin .mod false (.bin .add false (.bin .fdiv false (.var 0) (.int 4992)) (.bin .mul false (.int 5) (.var 6))) (.int 26)))) (.slc false (.var 3) (.yes (.bin .add false (.var 4) (.int 1))) .no)))) (
  .nil)))))
noncomputable def f_law_words : Fn := { name := ⟨#[95, 108, 97, 119, 95, 119, 111, 114, 100, 115]⟩, np := 2, slots := [(⟨#[95, 108, 97, 119, 95, 99, 101, 108, 108, 95, 104, 101, 114, 101]⟩, 0), (⟨#[95, 108, 97, 119, 95, 109, 97, 110, 121]⟩, 1), (⟨#[95, 108, 97, 119, 95, 108, 101, 116, 116, 101, 114, 115]⟩, 2), (⟨#[95, 108, 97, 119, 95, 98, 97, 115, 101]⟩, 3), (⟨#[95, 108, 97, 119, 95, 97, 116]⟩, 4)], ns := 7, body := b_law_words }
noncomputable def b_law_term : SL :=
  .cons (.asg (.var 3) (.bin .mod false (.var 0) (.int 6))) (
  .cons (.ite (.cmp .eq (.var 3) (.int 0))
    (.cons (.ret (.tup (.cons (.str s_num) (.cons (.bin .mod false (.bin .fdiv false (.var 0) (.int 6)) (.int 3)) (.nil))))) (
    .nil))
    (.nil)) (
  .cons (.ite (.cmp .eq (.var 3) (.int 1))
    (.cons (.ret (.tup (.cons (.str s_num) (.cons (.bin .mod false (.bin .fdiv false (.var 0) (.int 6)) (.int 1000003)) (.nil))))) (
    .nil))
    (.nil)) (
  .cons (.ite (.bop false (.cons (.cmp .lt (.var 3) (.int 4)) (.cons (.cmp .eq (.var 2) (.int 0)) (.nil))))
    (.cons (.ret (.tup (.cons (.str s_name) (.cons (.idx (.var 1) (.bin .mod false (.bin .fdiv false (.var 0) (.int 6)) (.bi .len false (.cons (.var 1) (.nil))))) (.nil))))) (
    .nil))
    (.nil)) (
  .cons (.asg (.var 4) (.idx (.list false (.cons (.str s_sum) (.cons (.str s_less) (.cons (.str s_times) (.nil))))) (.bin .mod false (.bin .fdiv false (.var 0) (.int 6)) (.int 3)))) (
  .cons (.ret (.tup (.cons (.var 4) (.cons (.call i_law_term (.cons (.call i_law_mixed (.cons (.var 0) (.cons (.int 1) (.nil)))) (.cons (.var 1) (.cons (.bin .sub false (.var 2) (.int 1)) (.nil))))) (.cons (.call i_law_term (.cons (.call i_law_mixed (.cons (.var 0) (.cons (.int 2) (.nil)))) (.cons (.var 1) (.cons (.bin .sub false (.var 2) (.int 1)) (.nil))))) (.nil)))))) (
  .nil))))))
noncomputable def f_law_term : Fn := { name := ⟨#[95, 108, 97, 119, 95, 116, 101, 114, 109]⟩, np := 3, slots := [(⟨#[95, 108, 97, 119, 95, 99, 101, 108, 108, 95, 104, 101, 114, 101]⟩, 0), (⟨#[95, 108, 97, 119, 95, 119, 111, 114, 100, 115, 95, 104, 101, 114, 101]⟩, 1), (⟨#[95, 108, 97, 119, 95, 100, 101, 101, 112]⟩, 2), (⟨#[95, 108, 97, 119, 95, 107, 105, 110, 100]⟩, 3), (⟨#[95, 108, 97, 119, 95, 119, 111, 114, 100]⟩, 4)], ns := 5, body := b_law_term }
noncomputable def b_law_given : SL :=
  .cons (.ite (.cmp .eq (.bin .mod false (.var 0) (.int 2)) (.int 0))
    (.cons (.ret (.tup (.cons (.str s_name) (.cons (.var 2) (.nil))))) (
    .nil))
    (.nil)) (
  .cons (.ret (.call i_law_term (.cons (.bin .fdiv false (.var 0) (.int 2)) (.cons (.var 1) (.cons (.int 1) (.nil)))))) (
  .nil))
noncomputable def f_law_given : Fn := { name := ⟨#[95, 108, 97, 119, 95, 103, 105, 118, 101, 110]⟩, np := 3, slots := [(⟨#[95, 108, 97, 119, 95, 99, 101, 108, 108, 95, 104, 101, 114, 101]⟩, 0), (⟨#[95, 108, 97, 119, 95, 119, 111, 114, 100, 115, 95, 104, 101, 114, 101]⟩, 1), (⟨#[95, 108, 97, 119, 95, 110, 97, 109, 101]⟩, 2)], ns := 3, body := b_law_given }
noncomputable def b_law_call : SL :=
  .cons (.asg (.var 3) (.idx (.var 2) (.bin .mod false (.bin .fdiv false (.var 0) (.int 7)) (.bi .len false (.cons (.var 2) (.nil)))))) (
  .cons (.asg (.var 4) (.comp false (.var 6) (.range (.bi .len false (.cons (.idx (.var 3) (.int 1)) (.nil)))) .no (.call i_law_given (.cons (.call i_law_mixed (.cons (.var 0) (.cons (.bin .add false (.int 10) (.var 6)) (.nil)))) (.cons (.var 1) (.cons (.idx (.idx (.var 3) (.int 1)) (.var 6)) (.nil))))))) (
  .cons (.asg (.var 5) (.idx (.var 1) (.bin .mod false (.bin .fdiv false (.var 0) (.int 49)) (.bi .len false (.cons (.var 1) (.nil)))))) (
  .cons (.ite (.cmp .eq (.bin .mod false (.var 0) (.int 3)) (.int 0))
    (.cons (.asg (.var 5) (.none)) (
    .nil))
    (.nil)) (
  .cons (.ret (.tup (.cons (.str s_call) (.cons (.var 5) (.cons (.idx (.var 3) (.int 0)) (.cons (.bi .tuple false (.cons (.var 4) (.nil))) (.nil))))))) (
  .nil)))))
noncomputable def f_law_call : Fn := { name := ⟨#[95, 108, 97, 119, 95, 99, 97, 108, 108]⟩, np := 3, slots := [(⟨#[95, 108, 97, 119, 95, 99, 101, 108, 108, 95, 104, 101, 114, 101]⟩, 0), (⟨#[95, 108, 97, 119, 95, 119, 111, 114, 100, 115, 95, 104, 101, 114, 101]⟩, 1), (⟨#[95, 108, 97, 119, 95, 104, 101, 97, 100, 115]⟩, 2), (⟨#[95, 108, 97, 119, 95, 104, 101, 97, 100]⟩, 3), (⟨#[95, 108, 97, 119, 95, 116, 101, 114, 109, 115]⟩, 4), (⟨#[95, 108, 97, 119, 95, 116, 97, 114, 103, 101, 116, 95, 104, 101, 114, 101]⟩, 5)], ns := 7, body := b_law_call }
noncomputable def b_law_row : SL :=
  .cons (.asg (.var 4) (.bin .mod false (.var 0) (.int 9))) (
  .cons (.asg (.var 5) (.call i_law_mixed (.cons (.var 0) (.cons (.int 3) (.nil))))) (
  .cons (.asg (.var 6) (.idx (.var 1) (.bin .mod false (.bin .fdiv false (.var 0) (.int 9)) (.bi .len false (.cons (.var 1) (.nil)))))) (
  .cons (.asg (.var 7) (.slc false (.var 2) .no (.yes (.bin .add false (.int 1) (.bi .int false (.cons (.cmp .eq (.bin .mod false (.bin .fdiv false (.var 0) (.int 3645)) (.int 8)) (.int 1)) (.nil))))))) (
  .cons (.ite (.bop false (.cons (.cmp .eq (.var 4) (.int 2)) (.cons (.cmp .eq (.var 4) (.int 8)) (.nil))))
    (.cons (.ret (.tup (.cons (.str s_tell) (.cons (.call i_law_term (.cons (.var 5) (.cons (.var 1) (.cons (.int 2) (.nil))))) (.nil))))) (
    .nil))
    (.nil)) (
  .cons (.ite (.bop true (.cons (.cmp .lt (.int 2) (.var 4)) (.cons (.cmp .lt (.var 4) (.int 6)) (.cons (.cmp .ne (.var 2) (.list false (.nil))) (.nil)))))
    (.cons (.ret (.call i_law_call (.cons (.var 5) (.cons (.var 1) (.cons (.var 2) (.nil)))))) (
    .nil))
    (.nil)) (
  .cons (.ite (.bop true (.cons (.cmp .eq (.var 4) (.int 6)) (.cons (.cmp .gt (.var 3) (.int 0)) (.nil))))
    (.cons (.asg (.var 8) (.call i_law_rows (.cons (.var 5) (.cons (.var 1) (.cons (.var 7) (.cons (.bin .sub false (.var 3) (.int 1)) (.cons (.bin .add false (.int 1) (.bin .mod false (.bin .fdiv false (.var 0) (.int 9)) (.int 3))) (.nil)))))))) (
    .cons (.ret (.tup (.cons (.str s_when) (.cons (.call i_law_term (.cons (.call i_law_mixed (.cons (.var 0) (.cons (.int 4) (.nil)))) (.cons (.var 1) (.cons (.int 1) (.nil))))) (.cons (.var 8) (.nil)))))) (
    .nil)))
    (.nil)) (
  .cons (.ite (.bop true (.cons (.cmp .eq (.var 4) (.int 7)) (.cons (.cmp .gt (.var 3) (.int 0)) (.nil))))
    (.cons (.asg (.var 9) (.idx (.list false (.cons (.int 2) (.cons (.int 1) (.cons (.int 2) (.cons (.int 0) (.nil)))))) (.bin .mod false (.bin .fdiv false (.var 0) (.int 27)) (.int 4)))) (
    .cons (.ite (.bop true (.cons (.cmp .eq (.var 2) (.list false (.nil))) (.cons (.cmp .eq (.var 3) (.int 2)) (.nil))))
      (.cons (.asg (.var 9) (.idx (.list false (.cons (.int 2) (.cons (.int 3) (.cons (.int 1) (.cons (.bin .mod false (.bin .fdiv false (.var 0) (.int 135)) (.int 10)) (.cons (.int 0) (.nil))))))) (.bin .mod false (.bin .fdiv false (.var 0) (.int 27)) (.int 5)))) (
      .nil))
      (.nil)) (
    .cons (.ret (.tup (.cons (.str s_again) (.cons (.var 9) (.cons (.call i_law_rows (.cons (.var 5) (.cons (.var 1) (.cons (.var 7) (.cons (.bin .sub false (.var 3) (.int 1)) (.cons (.bin .add false (.int 1) (.bin .mod false (.bin .fdiv false (.var 0) (.int 9)) (.int 3))) (.nil))))))) (.nil)))))) (
    .nil))))
    (.nil)) (
  .cons (.ret (.tup (.cons (.str s_set) (.cons (.var 6) (.cons (.call i_law_term (.cons (.var 5) (.cons (.var 1) (.cons (.bin .add false (.int 1) (.bin .mod false (.var 4) (.int 2))) (.nil))))) (.nil)))))) (
  .nil)))))))))
noncomputable def f_law_row : Fn := { name := ⟨#[95, 108, 97, 119, 95, 114, 111, 119]⟩, np := 4, slots := [(⟨#[95, 108, 97, 119, 95, 99, 101, 108, 108, 95, 104, 101, 114, 101]⟩, 0), (⟨#[95, 108, 97, 119, 95, 119, 111, 114, 100, 115, 95, 104, 101, 114, 101]⟩, 1), (⟨#[95, 108, 97, 119, 95, 104, 101, 97, 100, 115]⟩, 2), (⟨#[95, 108, 97, 119, 95, 100, 101, 101, 112]⟩, 3), (⟨#[95, 108, 97, 119, 95, 107, 105, 110, 100]⟩, 4), (⟨#[95, 108, 97, 119, 95, 114, 101, 115, 116]⟩, 5), (⟨#[95, 108, 97, 119, 95, 119, 111, 114, 100]⟩, 6), (⟨#[95, 108, 97, 119, 95, 102, 101, 119]⟩, 7), (⟨#[95, 108, 97, 119, 95, 114, 111, 119, 115, 95, 104, 101, 114, 101]⟩, 8), (⟨#[95, 108, 97, 119, 95, 99, 111, 117, 110, 116]⟩, 9)], ns := 10, body := b_law_row }
noncomputable def b_law_rows : SL :=
  .cons (.ret (.bi .tuple false (.cons (.comp false (.var 5) (.range (.var 4)) .no (.call i_law_row (.cons (.call i_law_mixed (.cons (.var 0) (.cons (.bin .add false (.int 20) (.var 5)) (.nil)))) (.cons (.var 1) (.cons (.var 2) (.cons (.var 3) (.nil))))))) (.nil)))) (
  .nil)
noncomputable def f_law_rows : Fn := { name := ⟨#[95, 108, 97, 119, 95, 114, 111, 119, 115]⟩, np := 5, slots := [(⟨#[95, 108, 97, 119, 95, 99, 101, 108, 108, 95, 104, 101, 114, 101]⟩, 0), (⟨#[95, 108, 97, 119, 95, 119, 111, 114, 100, 115, 95, 104, 101, 114, 101]⟩, 1), (⟨#[95, 108, 97, 119, 95, 104, 101, 97, 100, 115]⟩, 2), (⟨#[95, 108, 97, 119, 95, 100, 101, 101, 112]⟩, 3), (⟨#[95, 108, 97, 119, 95, 109, 97, 110, 121]⟩, 4)], ns := 6, body := b_law_rows }
noncomputable def b_law_looped : SL :=
  .cons (.ite (.bop false (.cons (.cmp .eq (.bin .mod false (.var 1) (.int 2)) (.int 0)) (.cons (.cmp .eq (.idx (.idx (.var 0) (.neg (.int 1))) (.int 2)) (.tup (.nil))) (.nil))))
    (.cons (.ret (.var 0)) (
    .nil))
    (.nil)) (
  .cons (.asgT [2, 3, 4, 5] (.idx (.var 0) (.neg (.int 1)))) (
  .cons (.ite (.cmp .eq (.bin .mod false (.bin .fdiv false (.var 1) (.int 4)) (.int 4)) (.int 1))
    (.cons (.forr (.var 6) (.range (.int 6))
      (.cons (.asg (.var 4) (.tup (.cons (.tup (.cons (.str s_when) (.cons (.tup (.cons (.str s_num) (.cons (.bin .add false (.int 1) (.var 6)) (.nil)))) (.cons (.var 4) (.nil))))) (.nil)))) (
      .nil))) (
    .nil))
    (.nil)) (
  .cons (.ret (.bin .add false (.slc false (.var 0) .no (.yes (.neg (.int 1)))) (.tup (.cons (.tup (.cons (.var 2) (.cons (.var 3) (.cons (.tup (.cons (.tup (.cons (.str s_again) (.cons (.bin .add false (.int 2) (.bin .mod false (.bin .fdiv false (.var 1) (.int 2)) (.int 2))) (.cons (.var 4) (.nil))))) (.nil))) (.cons (.var 5) (.nil)))))) (.nil))))) (
  .nil))))
noncomputable def f_law_looped : Fn := { name := ⟨#[95, 108, 97, 119, 95, 108, 111, 111, 112, 101, 100]⟩, np := 2, slots := [(⟨#[95, 108, 97, 119, 95, 112, 114, 111, 103, 114, 97, 109, 95, 104, 101, 114, 101]⟩, 0), (⟨#[95, 108, 97, 119, 95, 99, 101, 108, 108, 95, 104, 101, 114, 101]⟩, 1), (⟨#[95, 108, 97, 119, 95, 110, 97, 109, 101]⟩, 2), (⟨#[95, 108, 97, 119, 95, 110, 97, 109, 101, 115, 95, 104, 101, 114, 101]⟩, 3), (⟨#[95, 108, 97, 119, 95, 114, 111, 119, 115, 95, 104, 101, 114, 101]⟩, 4), (⟨#[95, 108, 97, 119, 95, 114, 101, 115, 117, 108, 116]⟩, 5), (⟨#[95, 108, 97, 119, 95, 107]⟩, 6)], ns := 7, body := b_law_looped }
noncomputable def b_law_function : SL :=
  .cons (.asg (.var 4) (.bin .mod false (.bin .fdiv false (.var 0) (.int 6)) (.bi .len false (.cons (.var 2) (.nil))))) (
  .cons (.asg (.var 5) (.bi .tuple false (.cons (.comp false (.var 8) (.range (.idx (.list false (.cons (.int 0) (.cons (.int 1) (.cons (.int 2) (.cons (.int 2) (.cons (.int 3) (.cons (.int 4) (.nil)))))))) (.bin .mod false (.var 0) (.int 6)))) .no (.idx (.var 2) (.bin .mod false (.bin .add false (.var 4) (.bin .mul false (.int 2) (.var 8))) (.bi .len false (.cons (.var 2) (.nil)))))) (.nil)))) (
  .cons (.asg (.var 6) (.idx (.list false (.cons (.int 3) (.cons (.int 4) (.cons (.int 2) (.cons (.int 5) (.cons (.int 0) (.cons (.int 6) (.nil)))))))) (.bin .mod false (.bin .fdiv false (.var 0) (.int 30)) (.int 6)))) (
  .cons (.ite (.cmp .eq (.bin .mod false (.bin .fdiv false (.var 0) (.int 180)) (.int 12)) (.int 1))
    (.cons (.asg (.var 6) (.bin .mod false (.bin .fdiv false (.var 0) (.int 2160)) (.int 30))) (
    .nil))
    (.nil)) (
  .cons (.ite (.cmp .gt (.var 6) (.int 6))
    (.cons (.asg (.var 3) (.list false (.nil))) (
    .nil))
    (.nil)) (
  .cons (.asg (.var 7) (.call i_law_rows (.cons (.call i_law_mixed (.cons (.var 0) (.cons (.int 5) (.nil)))) (.cons (.var 2) (.cons (.var 3) (.cons (.bin .sub false (.int 2) (.bi .int false (.cons (.cmp .gt (.var 6) (.int 6)) (.nil)))) (.cons (.var 6) (.nil)))))))) (
  .cons (.ret (.tup (.cons (.var 1) (.cons (.var 5) (.cons (.var 7) (.cons (.call i_law_term (.cons (.call i_law_mixed (.cons (.var 0) (.cons (.int 6) (.nil)))) (.cons (.var 2) (.cons (.int 1) (.nil))))) (.nil))))))) (
  .nil)))))))
noncomputable def f_law_function : Fn := { name := ⟨#[95, 108, 97, 119, 95, 102, 117, 110, 99, 116, 105, 111, 110]⟩, np := 4, slots := [(⟨#[95, 108, 97, 119, 95, 99, 101, 108, 108, 95, 104, 101, 114, 101]⟩, 0), (⟨#[95, 108, 97, 119, 95, 110, 97, 109, 101]⟩, 1), (⟨#[95, 108, 97, 119, 95, 119, 111, 114, 100, 115, 95, 104, 101, 114, 101]⟩, 2), (⟨#[95, 108, 97, 119, 95, 104, 101, 97, 100, 115]⟩, 3), (⟨#[95, 108, 97, 119, 95, 102, 105, 114, 115, 116]⟩, 4), (⟨#[95, 108, 97, 119, 95, 110, 97, 109, 101, 115, 95, 104, 101, 114, 101]⟩, 5), (⟨#[95, 108, 97, 119, 95, 109, 97, 110, 121]⟩, 6), (⟨#[95, 108, 97, 119, 95, 114, 111, 119, 115, 95, 104, 101, 114, 101]⟩, 7)], ns := 9, body := b_law_function }
noncomputable def b_law_variables : SL :=
  .cons (.ret (.call i_law_words (.cons (.call i_law_cell (.cons (.var 0) (.cons (.var 1) (.nil)))) (.cons (.bin .add false (.int 5) (.bin .mul false (.int 2) (.bi .int false (.cons (.cmp .eq (.bin .mod false (.bin .fdiv false (.call i_law_cell (.cons (.var 0) (.cons (.bin .add false (.var 1) (.int 2)) (.nil)))) (.int 512)) (.int 8)) (.int 1)) (.nil))))) (.nil))))) (
  .nil)
noncomputable def f_law_variables : Fn := { name := ⟨#[95, 108, 97, 119, 95, 118, 97, 114, 105, 97, 98, 108, 101, 115]⟩, np := 2, slots := [(⟨#[95, 108, 97, 119, 95, 115, 99, 114, 105, 112, 116]⟩, 0), (⟨#[95, 108, 97, 119, 95, 97, 116]⟩, 1)], ns := 2, body := b_law_variables }
noncomputable def b_law_program : SL :=
  .cons (.asg (.var 2) (.call i_law_variables (.cons (.var 0) (.cons (.var 1) (.nil))))) (
  .cons (.asg (.var 3) (.call i_law_words (.cons (.call i_law_cell (.cons (.var 0) (.cons (.bin .sub false (.bin .add false (.var 1) (.int 1)) (.bi .int false (.cons (.cmp .eq (.bin .mod false (.call i_law_cell (.cons (.var 0) (.cons (.bin .add false (.var 1) (.int 1)) (.nil)))) (.int 8)) (.int 3)) (.nil)))) (.nil)))) (.cons (.int 8) (.nil))))) (
  .cons (.asg (.var 4) (.tup (.nil))) (
  .cons (.asg (.var 5) (.bin .add false (.int 1) (.bin .mod false (.bin .add false (.call i_law_cell (.cons (.var 0) (.cons (.bin .add false (.var 1) (.int 2)) (.nil)))) (.int 2)) (.int 4)))) (
  .cons (.ite (.cmp .eq (.bin .mod false (.bin .fdiv false (.call i_law_cell (.cons (.var 0) (.cons (.bin .add false (.var 1) (.int 2)) (.nil)))) (.int 64)) (.int 8)) (.int 1))
    (.cons (.asg (.var 5) (.bin .add false (.var 5) (.int 4))) (
    .nil))
    (.nil)) (
  .cons (.forr (.var 6) (.range (.var 5))
    (.cons (.asg (.var 7) (.call i_law_function (.cons (.call i_law_cell (.cons (.var 0) (.cons (.bin .add false (.bin .add false (.var 1) (.int 3)) (.var 6)) (.nil)))) (.cons (.idx (.var 3) (.var 6)) (.cons (.var 2) (.cons (.bi .list false (.cons (.slc false (.var 4) .no (.yes (.int 3))) (.nil))) (.nil))))))) (
    .cons (.ite (.bop true (.cons (.cmp .eq (.var 6) (.int 0)) (.cons (.cmp .eq (.bin .mod false (.bin .fdiv false (.call i_law_cell (.cons (.var 0) (.cons (.bin .add false (.var 1) (.int 2)) (.nil)))) (.int 4096)) (.int 8)) (.int 1)) (.nil))))
      (.cons (.asg (.var 7) (.tup (.cons (.idx (.var 3) (.int 0)) (.cons (.tup (.nil)) (.cons (.tup (.nil)) (.cons (.idx (.var 7) (.int 3)) (.nil))))))) (
      .nil))
      (.nil)) (
    .cons (.asg (.var 4) (.bin .add false (.var 4) (.tup (.cons (.var 7) (.nil))))) (
    .nil))))) (
  .cons (.ret (.call i_law_looped (.cons (.var 4) (.cons (.bin .fdiv false (.call i_law_cell (.cons (.var 0) (.cons (.bin .add false (.var 1) (.int 2)) (.nil)))) (.int 4)) (.nil))))) (
  .nil)))))))
noncomputable def f_law_program : Fn := { name := ⟨#[95, 108, 97, 119, 95, 112, 114, 111, 103, 114, 97, 109]⟩, np := 2, slots := [(⟨#[95, 108, 97, 119, 95, 115, 99, 114, 105, 112, 116]⟩, 0), (⟨#[95, 108, 97, 119, 95, 97, 116]⟩, 1), (⟨#[95, 108, 97, 119, 95, 119, 111, 114, 100, 115, 95, 104, 101, 114, 101]⟩, 2), (⟨#[95, 108, 97, 119, 95, 110, 97, 109, 101, 115, 95, 104, 101, 114, 101]⟩, 3), (⟨#[95, 108, 97, 119, 95, 112, 114, 111, 103, 114, 97, 109, 95, 104, 101, 114, 101]⟩, 4), (⟨#[95, 108, 97, 119, 95, 99, 111, 117, 110, 116]⟩, 5), (⟨#[95, 108, 97, 119, 95, 107]⟩, 6), (⟨#[95, 108, 97, 119, 95, 102, 117, 110, 99, 116, 105, 111, 110, 95, 104, 101, 114, 101]⟩, 7)], ns := 8, body := b_law_program }
noncomputable def b_law_names : SL :=
  .cons (.ite (.cmp .eq (.idx (.var 0) (.int 0)) (.str s_name))
    (.cons (.ret (.list false (.cons (.idx (.var 0) (.int 1)) (.nil)))) (
    .nil))
    (.nil)) (
  .cons (.ite (.cmp .eq (.idx (.var 0) (.int 0)) (.str s_num))
    (.cons (.ret (.list false (.nil))) (
    .nil))
    (.nil)) (
  .cons (.ret (.bin .add false (.call i_law_names (.cons (.idx (.var 0) (.int 1)) (.nil))) (.call i_law_names (.cons (.idx (.var 0) (.int 2)) (.nil))))) (
  .nil)))
noncomputable def f_law_names : Fn := { name := ⟨#[95, 108, 97, 119, 95, 110, 97, 109, 101, 115]⟩, np := 1, slots := [(⟨#[95, 108, 97, 119, 95, 116, 101, 114, 109, 95, 104, 101, 114, 101]⟩, 0)], ns := 1, body := b_law_names }
noncomputable def b_law_own : SL :=
  .cons (.ite (.cmp .eq (.idx (.var 0) (.int 0)) (.str s_again))
    (.cons (.ret (.list false (.nil))) (
    .nil))
    (.nil)) (
  .cons (.asg (.var 1) (.list false (.cons (.idx (.var 0) (.int 1)) (.nil)))) (
  .cons (.ite (.cmp .eq (.idx (.var 0) (.int 0)) (.str s_set))
    (.cons (.asg (.var 1) (.list false (.cons (.idx (.var 0) (.int 2)) (.nil)))) (
    .nil))
    (.nil)) (
  .cons (.ite (.cmp .eq (.idx (.var 0) (.int 0)) (.str s_call))
    (.cons (.asg (.var 1) (.bi .list false (.cons (.idx (.var 0) (.int 3)) (.nil)))) (
    .nil))
    (.nil)) (
  .cons (.asg (.var 2) (.list false (.nil))) (
  .cons (.forr (.var 3) (.seq (.var 1))
    (.cons (.asg (.var 2) (.bin .add false (.var 2) (.call i_law_names (.cons (.var 3) (.nil))))) (
    .nil))) (
  .cons (.ret (.var 2)) (
  .nil)))))))
noncomputable def f_law_own : Fn := { name := ⟨#[95, 108, 97, 119, 95, 111, 119, 110]⟩, np := 1, slots := [(⟨#[95, 108, 97, 119, 95, 114, 111, 119, 95, 104, 101, 114, 101]⟩, 0), (⟨#[95, 108, 97, 119, 95, 116, 101, 114, 109, 115]⟩, 1), (⟨#[95, 108, 97, 119, 95, 102, 111, 117, 110, 100]⟩, 2), (⟨#[95, 108, 97, 119, 95, 116, 101, 114, 109, 95, 104, 101, 114, 101]⟩, 3)], ns := 4, body := b_law_own }
noncomputable def b_law_target : SL :=
  .cons (.ite (.bop false (.cons (.cmp .eq (.idx (.var 0) (.int 0)) (.str s_set)) (.cons (.cmp .eq (.idx (.var 0) (.int 0)) (.str s_call)) (.nil))))
    (.cons (.ret (.idx (.var 0) (.int 1))) (
    .nil))
    (.nil)) (
  .cons (.ret (.none)) (
  .nil))
noncomputable def f_law_target : Fn := { name := ⟨#[95, 108, 97, 119, 95, 116, 97, 114, 103, 101, 116]⟩, np := 1, slots := [(⟨#[95, 108, 97, 119, 95, 114, 111, 119, 95, 104, 101, 114, 101]⟩, 0)], ns := 1, body := b_law_target }
noncomputable def b_law_block : SL :=
  .cons (.ite (.bop false (.cons (.cmp .eq (.idx (.var 0) (.int 0)) (.str s_when)) (.cons (.cmp .eq (.idx (.var 0) (.int 0)) (.str s_again)) (.nil))))
    (.cons (.ret (.idx (.var 0) (.int 2))) (
    .nil))
    (.nil)) (
  .cons (.ret (.tup (.nil))) (
  .nil))
noncomputable def f_law_block : Fn := { name := ⟨#[95, 108, 97, 119, 95, 98, 108, 111, 99, 107]⟩, np := 1, slots := [(⟨#[95, 108, 97, 119, 95, 114, 111, 119, 95, 104, 101, 114, 101]⟩, 0)], ns := 1, body := b_law_block }
noncomputable def b_law_places : SL :=
  .cons (.asg (.var 2) (.list true (.nil))) (
  .cons (.forr (.var 3) (.range (.bi .len false (.cons (.var 1) (.nil))))
    (.cons (.expr (.meth .append (.var 2) (.cons (.tup (.cons (.bin .add false (.var 0) (.tup (.cons (.var 3) (.nil)))) (.cons (.idx (.var 1) (.var 3)) (.nil)))) (.nil)))) (
    .cons (.asg (.var 2) (.bin .add true (.var 2) (.call i_law_places (.cons (.bin .add false (.var 0) (.tup (.cons (.var 3) (.nil)))) (.cons (.call i_law_block (.cons (.idx (.var 1) (.var 3)) (.nil))) (.nil)))))) (
    .nil)))) (
  .cons (.ret (.freeze (.var 2))) (
  .nil)))
noncomputable def f_law_places : Fn := { name := ⟨#[95, 108, 97, 119, 95, 112, 108, 97, 99, 101, 115]⟩, np := 2, slots := [(⟨#[95, 108, 97, 119, 95, 112, 108, 97, 99, 101]⟩, 0), (⟨#[95, 108, 97, 119, 95, 114, 111, 119, 115, 95, 104, 101, 114, 101]⟩, 1), (⟨#[95, 108, 97, 119, 95, 102, 111, 117, 110, 100]⟩, 2), (⟨#[95, 108, 97, 119, 95, 97, 116]⟩, 3)], ns := 4, body := b_law_places }
noncomputable def b_law_scan : SL :=
  .cons (.asg (.var 2) (.bool false)) (
  .cons (.forr (.var 3) (.seq (.var 0))
    (.cons (.asg (.var 2) (.bop false (.cons (.var 2) (.cons (.cmp .isIn (.var 1) (.call i_law_own (.cons (.var 3) (.nil)))) (.nil))))) (
    .cons (.ite (.bop false (.cons (.cmp .eq (.idx (.var 3) (.int 0)) (.str s_when)) (.cons (.bop true (.cons (.cmp .eq (.idx (.var 3) (.int 0)) (.str s_again)) (.cons (.cmp .gt (.idx (.var 3) (.int 1)) (.int 0)) (.nil)))) (.nil))))
      (.cons (.asg (.var 4) (.call i_law_scan (.cons (.idx (.var 3) (.int 2)) (.cons (.var 1) (.nil))))) (
      .cons (.asg (.var 2) (.bop false (.cons (.var 2) (.cons (.idx (.var 4) (.int 0)) (.nil))))) (
      .cons (.ite (.bop true (.cons (.cmp .eq (.idx (.var 3) (.int 0)) (.str s_again)) (.cons (.not (.idx (.var 4) (.int 1))) (.nil))))
        (.cons (.ret (.tup (.cons (.var 2) (.cons (.bool false) (.nil))))) (
        .nil))
        (.nil)) (
      .nil))))
      (.nil)) (
    .cons (.ite (.cmp .eq (.call i_law_target (.cons (.var 3) (.nil))) (.var 1))
      (.cons (.ret (.tup (.cons (.var 2) (.cons (.bool false) (.nil))))) (
      .nil))
      (.nil)) (
    .nil))))) (
  .cons (.ret (.tup (.cons (.var 2) (.cons (.bool true) (.nil))))) (
  .nil)))
noncomputable def f_law_scan : Fn := { name := ⟨#[95, 108, 97, 119, 95, 115, 99, 97, 110]⟩, np := 2, slots := [(⟨#[95, 108, 97, 119, 95, 114, 111, 119, 115, 95, 104, 101, 114, 101]⟩, 0), (⟨#[95, 108, 97, 119, 95, 110, 97, 109, 101]⟩, 1), (⟨#[95, 108, 97, 119, 95, 114, 101, 97, 100]⟩, 2), (⟨#[95, 108, 97, 119, 95, 114, 111, 119, 95, 104, 101, 114, 101]⟩, 3), (⟨#[95, 108, 97, 119, 95, 116, 111, 108, 100]⟩, 4)], ns := 5, body := b_law_scan }
noncomputable def b_law_all : SL :=
  .cons (.asg (.var 1) (.list false (.nil))) (
  .cons (.forr (.var 2) (.range (.bi .len false (.cons (.var 0) (.nil))))
    (.cons (.asg (.var 1) (.bin .add false (.var 1) (.call i_law_places (.cons (.tup (.cons (.var 2) (.nil))) (.cons (.idx (.idx (.var 0) (.var 2)) (.int 2)) (.nil)))))) (
    .nil))) (
  .cons (.ret (.var 1)) (
  .nil)))
noncomputable def f_law_all : Fn := { name := ⟨#[95, 108, 97, 119, 95, 97, 108, 108]⟩, np := 1, slots := [(⟨#[95, 108, 97, 119, 95, 112, 114, 111, 103, 114, 97, 109, 95, 104, 101, 114, 101]⟩, 0), (⟨#[95, 108, 97, 119, 95, 102, 111, 117, 110, 100]⟩, 1), (⟨#[95, 108, 97, 119, 95, 110, 117, 109, 98, 101, 114]⟩, 2)], ns := 3, body := b_law_all }
noncomputable def b_law_list : SL :=
  .cons (.ite (.not (.bi (.isinst .list) false (.cons (.var 0) (.nil))))
    (.cons (.ret (.bool false)) (
    .nil))
    (.nil)) (
  .cons (.forr (.var 2) (.seq (.var 0))
    (.cons (.ite (.not (.bi (.isinst .str) false (.cons (.var 2) (.nil))))
      (.cons (.ret (.bool false)) (
      .nil))
      (.nil)) (
    .nil))) (
  .cons (.ret (.cmp .eq (.var 0) (.bi .sorted false (.cons (.var 1) (.nil))))) (
  .nil)))
noncomputable def f_law_list : Fn := { name := ⟨#[95, 108, 97, 119, 95, 108, 105, 115, 116]⟩, np := 2, slots := [(⟨#[95, 108, 97, 119, 95, 102, 111, 117, 110, 100]⟩, 0), (⟨#[95, 108, 97, 119, 95, 100, 117, 101]⟩, 1), (⟨#[95, 108, 97, 119, 95, 110, 97, 109, 101]⟩, 2)], ns := 3, body := b_law_list }
noncomputable def b_law : SL :=
  .cons (.asg (.var 1) (.call i_law_program (.cons (.var 0) (.cons (.int 2) (.nil))))) (
  .cons (.asg (.var 2) (.comp false (.var 8) (.seq (.var 1)) .no (.idx (.var 8) (.int 2)))) (
  .cons (.asg (.var 2) (.bin .add false (.var 2) (.comp false (.var 9) (.seq (.call i_law_all (.cons (.var 1) (.nil)))) (.yes (.cmp .ne (.call i_law_block (.cons (.idx (.var 9) (.int 1)) (.nil))) (.tup (.nil)))) (.call i_law_block (.cons (.idx (.var 9) (.int 1)) (.nil)))))) (
  .cons (.asg (.var 3) (.idx (.var 2) (.bin .mod false (.call i_law_cell (.cons (.var 0) (.cons (.int 0) (.nil)))) (.bi .len false (.cons (.var 2) (.nil)))))) (
  .cons (.asg (.var 4) (.call i_law_variables (.cons (.var 0) (.cons (.int 2) (.nil))))) (
  .cons (.asg (.var 5) (.list true (.cons (.comp false (.var 10) (.seq (.var 4)) (.yes (.idx (.call i_law_scan (.cons (.var 3) (.cons (.var 10) (.nil)))) (.int 0))) (.var 10)) (.nil)))) (
  .cons (.expr (.meth .append (.var 5) (.cons (.comp false (.var 11) (.seq (.var 4)) (.yes (.not (.idx (.call i_law_scan (.cons (.var 3) (.cons (.var 11) (.nil)))) (.int 1)))) (.var 11)) (.nil)))) (
  .cons (.forr (.var 6) (.range (.int 2))
    (.cons (.asg (.var 7) (.list false (.cons (.call i_first_read (.cons (.var 3) (.nil))) (.cons (.call i_surely_set (.cons (.var 3) (.nil))) (.nil))))) (
    .cons (.ite (.bop false (.cons (.not (.call i_law_list (.cons (.idx (.var 7) (.int 0)) (.cons (.idx (.var 5) (.int 0)) (.nil))))) (.cons (.not (.call i_law_list (.cons (.idx (.var 7) (.int 1)) (.cons (.idx (.var 5) (.int 1)) (.nil))))) (.nil))))
      (.cons (.ret (.bool false)) (
      .nil))
      (.nil)) (
    .cons (.expr (.meth .append (.idx (.var 7) (.int 0)) (.cons (.str s_more) (.nil)))) (
    .cons (.expr (.meth .append (.idx (.var 7) (.int 1)) (.cons (.str s_more) (.nil)))) (
    .nil)))))) (
  .cons (.ret (.bool true)) (
  .nil)))))))))
noncomputable def f_law : Fn := { name := ⟨#[108, 97, 119]⟩, np := 1, slots := [(⟨#[95, 108, 97, 119, 95, 115, 99, 114, 105, 112, 116]⟩, 0), (⟨#[95, 108, 97, 119, 95, 112, 114, 111, 103, 114, 97, 109, 95, 104, 101, 114, 101]⟩, 1), (⟨#[95, 108, 97, 119, 95, 115, 111, 109, 101]⟩, 2), (⟨#[95, 108, 97, 119, 95, 114, 111, 119, 115, 95, 104, 101, 114, 101]⟩, 3), (⟨#[95, 108, 97, 119, 95, 119, 111, 114, 100, 115, 95, 104, 101, 114, 101]⟩, 4), (⟨#[95, 108, 97, 119, 95, 100, 117, 101]⟩, 5), (⟨#[95, 108, 97, 119, 95, 116, 117, 114, 110]⟩, 6), (⟨#[95, 108, 97, 119, 95, 102, 111, 117, 110, 100]⟩, 7)], ns := 12, body := b_law }
noncomputable def fns : List Fn := [f_gather, f_names_in, f_own_terms, f_own_names, f_own_set, f_surely_in, f_surely_set, f_first_in, f_first_read, f_law_cell, f_law_mixed, f_law_words, f_law_term, f_law_given, f_law_call, f_law_row, f_law_rows, f_law_looped, f_law_function, f_law_variables, f_law_program, f_law_names, f_law_own, f_law_target, f_law_block, f_law_places, f_law_scan, f_law_all, f_law_list, f_law]
noncomputable def globs : Nat → Option PyData
  | _ => none
noncomputable def prog : Prog := { G := globs, P := fun n => fns[n]? }
end Mine.L03

set_option autoImplicit false
set_option linter.unusedVariables false
set_option linter.unusedSimpArgs false
namespace Mine.L03
open PySem Mine

theorem callF_succ (p : Prog) (d f : Nat) (args : List V) (σ : Store) : callF p (d + 1) f args σ = match p.P f with
    | none => .bad
    | some fn => if args.length = fn.np then
        (execs p.G (callF p d) fn.body (args ++ List.replicate (fn.ns - fn.np) .un) σ).bind fun o σ₁ =>
          exitV σ.length (match o with | .ret v => v | .next _ => .d .none) σ₁
      else .bad := rfl
noncomputable def finR (n : Nat) (o : Out) (σ : Store) : Res V := exitV n (match o with | .ret v => v | .next _ => .d .none) σ
theorem finR_ret (n : Nat) (v : V) (σ : Store) : finR n (.ret v) σ = exitV n v σ := by rw [finR]
theorem finR_next (n : Nat) (ρ : Fm) (σ : Store) : finR n (.next ρ) σ = exitV n (.d .none) σ := by rw [finR]
theorem callF_is {p : Prog} {f : Nat} {fn : Fn} (h : p.P f = some fn) (d : Nat) (args : List V) (σ : Store) (ha : args.length = fn.np) : callF p (d + 1) f args σ = (execs p.G (callF p d) fn.body (args ++ List.replicate (fn.ns - fn.np) .un) σ).bind (finR σ.length) := by
  rw [callF_succ, h]; simp only [ha, if_true]; rfl
theorem exit_d (x : PyData) (σ : Store) : exitV σ.length (.d x) σ = .ok (.d x) σ := by simp [exitV]
theorem exit_at {σ σ' : Store} {n : Nat} (x : PyData) (h : σ'.take n = σ) : exitV n (.d x) σ' = .ok (.d x) σ := by simp [exitV, h]

theorem exit_set (x : PyData) (σ : Store) (n : Nat) (c : Cell) : exitV σ.length (.d x) (σ.set n c) = .ok (.d x) (σ.set n c) := exit_at x (List.take_of_length_le (by simp))
noncomputable def cellRaw (l : List Int) (k : Nat) : Int := (l[k]?).getD 0
noncomputable def markV (c k : Int) : Int := (c % 2147483629 + 7919 * (k + 1)) * 48271 % 2147483647
noncomputable def mark2 (m : Int) : Int := m * m % 2147483629 * 69621 % 2147483647
noncomputable def cellV (l : List Int) (k : Nat) : Int := (cellRaw l k / 2147483629 * 2147483647 + mark2 (markV (cellRaw l k) k)) * 2147483629 + mark2 (markV (cellRaw l k) k) * mark2 (markV (cellRaw l k) k) % 2147483629

theorem small_mod {a m : Int} (hm : 0 < m) (h : m ≤ 9223372036854775808) : (a % m).natAbs < 9223372036854775808 := by
  have h1 := Int.emod_nonneg a (Int.ne_of_gt hm)
  have h2 := Int.emod_lt_of_pos a hm
  omega
theorem mulOk_l {a b : Int} (h : a.natAbs < 9223372036854775808) : mulOk a b = true := by simp [mulOk, h]
theorem mulOk_r {a b : Int} (h : b.natAbs < 9223372036854775808) : mulOk a b = true := by simp [mulOk, h]

theorem call_cell (d : Nat) (l : List Int) (k : Nat) (σ : Store) : callF prog (d + 1) i_law_cell [.d (.list (l.map .int)), .d (.int k)] σ = .ok (.d (.int (cellV l k))) σ := by
  rw [callF_is (fn := f_law_cell) rfl d _ _ rfl]
  have m1 : ∀ c : Int, mulOk c 48271 = true := fun c => mulOk_r (by decide)
  have m2 : ∀ c : Int, mulOk 7919 c = true := fun c => mulOk_l (by decide)
  have m3 : ∀ c : Int, mulOk c 69621 = true := fun c => mulOk_r (by decide)
  have m4 : ∀ c : Int, mulOk c 2147483647 = true := fun c => mulOk_r (by decide)
  have m5 : ∀ c : Int, mulOk c 2147483629 = true := fun c => mulOk_r (by decide)
  have m6 : ∀ c e : Int, mulOk (c % 2147483647) e = true := fun c e => mulOk_l (small_mod (by decide) (by decide))
  have p1 : (0 : Int) < 2147483629 := by decide
  have p2 : (0 : Int) < 2147483647 := by decide
  have p3 : (0 : Int) < 2147483629 ∧ (2147483629 : Int) < 9223372036854775808 := by decide
  show (execs prog.G (callF prog d) b_law_cell [.d (.list (l.map .int)), .d (.int k), .un, .un] σ).bind (finR σ.length) = _
  have first : evalE prog.G (callF prog d) (.ite (.cmp .lt (.var 1) (.bi .len false (.cons (.var 0) (.nil)))) (.idx (.var 0) (.var 1)) (.int 0)) [.d (.list (l.map .int)), .d (.int k), .un, .un] σ = .ok (.d (.int (cellRaw l k))) σ := by
    simp only [rb_ok, lift_some, o_map, eE_none, eE_bool, eE_int, eE_str, eE_var, eE_glob, eE_bin, eE_neg, eE_not, eE_bop, eB_one, eB_more, eE_cmp, eE_cmp2, eE_ite, eE_tup, eE_list, eE_dict0, eE_dict1, eE_idx, eE_slc, eE_call, eE_bi, eE_meth, eE_freeze, eL_nil, eL_cons, eO_no, eO_yes, eI_seq, eI_range, x_expr, x_asg, x_ite, x_ret, x_pass, x_put, x_for, xs_nil, xs_cons, stepO_next, stepO_ret, look_d, look_loc, look_locs, negR_int, noneR_none, pick_tt, pick_tf, pick_ft, pick_ff, pickO_t, pickO_f, pickB_t, t_bool, b_add, b_sub, c_lt, c_eqI, c_eqS, c_neS, List.getElem?_cons_zero, List.getElem?_cons_succ, List.set_cons_zero, List.set_cons_succ, Bool.not_true, Bool.not_false, decide_true, decide_false, len_list, List.length_map]
    by_cases h : k < l.length
    · rw [decide_eq_true (by omega), pick_tt]
      have : idxV (.d (.list (l.map .int))) (.d (.int k)) σ = some (.d (.int (cellRaw l k))) := by
        rw [idx_list _ (Int.natCast_nonneg k)]; simp [cellRaw, h]
      rw [this, lift_some]
    · rw [decide_eq_false (by omega), pick_tf]
      simp [cellRaw, Nat.le_of_not_lt h]
  unfold b_law_cell
  simp only [xs_cons, x_asg, first, rb_ok, stepO_next, List.set_cons_succ, List.set_cons_zero, eE_bin, eE_var, eE_int, List.getElem?_cons_zero, List.getElem?_cons_succ, look_d, b_mod _ _ p1, b_mod _ _ p2, b_add, b_mul _ _ (m1 _), b_mul _ _ (m2 _), b_mul _ _ (m3 _), b_mul _ _ (m4 _), b_mul _ _ (m5 _), b_mul _ _ (m6 _ _), b_fdiv _ _ p3, x_ret, stepO_ret, finR_ret, exit_d]
  rw [cellV, mark2, markV]

noncomputable def mixV (c k : Int) : Int := (c * 48271 + (k + 1) * 1299721) % 2147483647 * ((c * 48271 + (k + 1) * 1299721) % 2147483647 / 7 % 65536 + 3) % 2147483647
theorem call_mixed (d : Nat) (c k : Int) (σ : Store) : callF prog (d + 1) i_law_mixed [.d (.int c), .d (.int k)] σ = .ok (.d (.int (mixV c k))) σ := by
  rw [callF_is (fn := f_law_mixed) rfl d _ _ rfl]
  have m1 : ∀ c : Int, mulOk c 48271 = true := fun c => mulOk_r (by decide)
  have m2 : ∀ c : Int, mulOk c 1299721 = true := fun c => mulOk_r (by decide)
  have m6 : ∀ c e : Int, mulOk (c % 2147483647) e = true := fun c e => mulOk_l (small_mod (by decide) (by decide))
  have p2 : (0 : Int) < 2147483647 := by decide
  have p4 : (0 : Int) < 65536 := by decide
  have p3 : (0 : Int) < 7 ∧ (7 : Int) < 9223372036854775808 := by decide
  show (execs prog.G (callF prog d) b_law_mixed [.d (.int c), .d (.int k), .un] σ).bind (finR σ.length) = _
  unfold b_law_mixed
  simp only [rb_ok, lift_some, o_map, eE_none, eE_bool, eE_int, eE_str, eE_var, eE_glob, eE_bin, eE_neg, eE_not, eE_bop, eB_one, eB_more, eE_cmp, eE_cmp2, eE_ite, eE_tup, eE_list, eE_dict0, eE_dict1, eE_idx, eE_slc, eE_call, eE_bi, eE_meth, eE_freeze, eL_nil, eL_cons, eO_no, eO_yes, eI_seq, eI_range, x_expr, x_asg, x_ite, x_ret, x_pass, x_put, x_for, xs_nil, xs_cons, stepO_next, stepO_ret, look_d, look_loc, look_locs, negR_int, noneR_none, pick_tt, pick_tf, pick_ft, pick_ff, pickO_t, pickO_f, pickB_t, t_bool, b_add, b_sub, c_lt, c_eqI, c_eqS, c_neS, List.getElem?_cons_zero, List.getElem?_cons_succ, List.set_cons_zero, List.set_cons_succ, Bool.not_true, Bool.not_false, decide_true, decide_false, b_mod _ _ p4, b_mod _ _ p2, b_mul _ _ (m1 _), b_mul _ _ (m2 _), b_mul _ _ (m6 _ _), b_fdiv _ _ p3, finR_ret, exit_d]
  rw [mixV]

/-! terms -/
inductive Tm where
  | num (i : Int)
  | name (x : Str)
  | op (k : Nat) (a b : Tm)
noncomputable def opS : Nat → Str
  | 0 => s_sum
  | 1 => s_less
  | _ => s_times
noncomputable def toD : Tm → PyData
  | .num i => .tuple [.str s_num, .int i]
  | .name x => .tuple [.str s_name, .str x]
  | .op k a b => .tuple [.str (opS k), toD a, toD b]
noncomputable def ht : Tm → Nat
  | .op _ a b => max (ht a) (ht b) + 1
  | _ => 0
noncomputable def leaves : Tm → Nat
  | .op _ a b => leaves a + leaves b
  | _ => 1
noncomputable def okT : Tm → Prop
  | .num i => 0 ≤ i ∧ i < 1000003
  | .name _ => True
  | .op _ a b => okT a ∧ okT b
theorem opS_cases (k : Nat) : opS k = s_sum ∨ opS k = s_less ∨ opS k = s_times := by
  unfold opS; split <;> simp
theorem opS_num (k : Nat) : decide (opS k = s_num) = false := by rcases opS_cases k with h | h | h <;> rw [h] <;> decide
theorem opS_name (k : Nat) : decide (opS k = s_name) = false := by rcases opS_cases k with h | h | h <;> rw [h] <;> decide
theorem nn1 : decide (s_num = s_name) = false := by decide
theorem nn2 : decide (s_name = s_num) = false := by decide
theorem nn3 : decide (s_name = s_name) = true := by decide
theorem nn4 : decide (s_num = s_num) = true := by decide
section
variable (σ : Store) (a b c : PyData)
theorem i2_0 : idxV (.d (.tuple [a, b])) (.d (.int 0)) σ = some (.d a) := idx_tupN σ [a, b] 0
theorem i2_1 : idxV (.d (.tuple [a, b])) (.d (.int 1)) σ = some (.d b) := idx_tupN σ [a, b] 1
theorem i3_0 : idxV (.d (.tuple [a, b, c])) (.d (.int 0)) σ = some (.d a) := idx_tupN σ [a, b, c] 0
theorem i3_1 : idxV (.d (.tuple [a, b, c])) (.d (.int 1)) σ = some (.d b) := idx_tupN σ [a, b, c] 1
theorem i3_2 : idxV (.d (.tuple [a, b, c])) (.d (.int 2)) σ = some (.d c) := idx_tupN σ [a, b, c] 2
end

noncomputable def addN (L : List Str) (x : Str) : List Str := if x ∈ L then L else L ++ [x]
theorem addN_len (L : List Str) (x : Str) : (addN L x).length ≤ L.length + 1 := by unfold addN; split <;> simp
noncomputable def gath : Tm → List Str → List Str
  | .num _, L => L
  | .name x, L => addN L x
  | .op _ a b, L => gath b (gath a L)
theorem gath_len : ∀ (t : Tm) (L : List Str), (gath t L).length ≤ L.length + leaves t
  | .num _, L => by simp [gath]
  | .name x, L => addN_len L x
  | .op _ a b, L => by
    have h1 := gath_len a L
    have h2 := gath_len b (gath a L)
    simp only [gath, leaves]; omega

theorem any_mem (L : List Str) (x : Str) : ((L.map PyData.str).any fun y => y.eqv (.str x)) = decide (x ∈ L) := by
  induction L with
  | nil => simp
  | cons y L ih =>
    rw [List.map_cons, List.any_cons, ih]
    rw [eqv_str]
    by_cases h : y = x
    · simp [h]
    · simp [h, Ne.symm h]
theorem inL {σ : Store} {n : Nat} {L : List Str} (h : σ[n]? = some (.lst (L.map .str))) (x : Str) : cmpV .notIn (.d (.str x)) (.loc n) σ = some (!decide (x ∈ L)) := by
  rw [c_notIn, in_loc x h, any_mem]; rfl
theorem set_get {σ : Store} {n : Nat} {c c' : Cell} (h : σ[n]? = some c) : (σ.set n c')[n]? = some c' := by
  have := (List.getElem?_eq_some_iff.mp h).1; simp [this]

theorem set_same {σ : Store} {n : Nat} {c : Cell} (hc : σ[n]? = some c) : σ.set n c = σ := by
  apply List.ext_getElem?; intro k
  by_cases hk : n = k
  · subst hk; rw [set_get hc, hc]
  · simp [hk]
theorem gather_num (i : Int) (d n : Nat) (σ : Store) : callF prog (d + 1) i_gather [.d (toD (.num i)), .loc n] σ = .ok (.d .none) σ := by
  rw [callF_is (fn := f_gather) rfl d _ _ rfl]
  show (execs prog.G (callF prog d) b_gather [.d (.tuple [.str s_num, .int i]), .loc n] σ).bind (finR σ.length) = _
  unfold b_gather
  simp only [rb_ok, lift_some, o_map, eE_none, eE_bool, eE_int, eE_str, eE_var, eE_glob, eE_bin, eE_neg, eE_not, eE_bop, eB_one, eB_more, eE_cmp, eE_cmp2, eE_ite, eE_tup, eE_list, eE_dict0, eE_dict1, eE_idx, eE_slc, eE_call, eE_bi, eE_meth, eE_freeze, eL_nil, eL_cons, eO_no, eO_yes, eI_seq, eI_range, x_expr, x_asg, x_ite, x_ret, x_pass, x_put, x_for, xs_nil, xs_cons, stepO_next, stepO_ret, look_d, look_loc, look_locs, negR_int, noneR_none, pick_tt, pick_tf, pick_ft, pick_ff, pickO_t, pickO_f, pickB_t, t_bool, b_add, b_sub, c_lt, c_eqI, c_eqS, c_neS, List.getElem?_cons_zero, List.getElem?_cons_succ, List.set_cons_zero, List.set_cons_succ, Bool.not_true, Bool.not_false, decide_true, decide_false, i2_0, i2_1, nn1, nn2, nn3, nn4, finR_next, exit_d]
theorem gather_name (x : Str) (d n : Nat) (σ : Store) (L : List Str) (hc : σ[n]? = some (.lst (L.map .str))) (hl : L.length < 1000) : callF prog (d + 1) i_gather [.d (toD (.name x)), .loc n] σ = .ok (.d .none) (σ.set n (.lst ((addN L x).map .str))) := by
  rw [callF_is (fn := f_gather) rfl d _ _ rfl]
  show (execs prog.G (callF prog d) b_gather [.d (.tuple [.str s_name, .str x]), .loc n] σ).bind (finR σ.length) = _
  unfold b_gather
  have hlen : (L.map PyData.str).length < LIM := by simp [LIM]; omega
  by_cases hx : x ∈ L
  · simp only [rb_ok, lift_some, o_map, eE_none, eE_bool, eE_int, eE_str, eE_var, eE_glob, eE_bin, eE_neg, eE_not, eE_bop, eB_one, eB_more, eE_cmp, eE_cmp2, eE_ite, eE_tup, eE_list, eE_dict0, eE_dict1, eE_idx, eE_slc, eE_call, eE_bi, eE_meth, eE_freeze, eL_nil, eL_cons, eO_no, eO_yes, eI_seq, eI_range, x_expr, x_asg, x_ite, x_ret, x_pass, x_put, x_for, xs_nil, xs_cons, stepO_next, stepO_ret, look_d, look_loc, look_locs, negR_int, noneR_none, pick_tt, pick_tf, pick_ft, pick_ff, pickO_t, pickO_f, pickB_t, t_bool, b_add, b_sub, c_lt, c_eqI, c_eqS, c_neS, List.getElem?_cons_zero, List.getElem?_cons_succ, List.set_cons_zero, List.set_cons_succ, Bool.not_true, Bool.not_false, decide_true, decide_false, i2_0, i2_1, inL hc, decide_eq_true hx, finR_next, exit_d, addN, if_pos hx, set_same hc]
  · simp only [rb_ok, lift_some, o_map, eE_none, eE_bool, eE_int, eE_str, eE_var, eE_glob, eE_bin, eE_neg, eE_not, eE_bop, eB_one, eB_more, eE_cmp, eE_cmp2, eE_ite, eE_tup, eE_list, eE_dict0, eE_dict1, eE_idx, eE_slc, eE_call, eE_bi, eE_meth, eE_freeze, eL_nil, eL_cons, eO_no, eO_yes, eI_seq, eI_range, x_expr, x_asg, x_ite, x_ret, x_pass, x_put, x_for, xs_nil, xs_cons, stepO_next, stepO_ret, look_d, look_loc, look_locs, negR_int, noneR_none, pick_tt, pick_tf, pick_ft, pick_ff, pickO_t, pickO_f, pickB_t, t_bool, b_add, b_sub, c_lt, c_eqI, c_eqS, c_neS, List.getElem?_cons_zero, List.getElem?_cons_succ, List.set_cons_zero, List.set_cons_succ, Bool.not_true, Bool.not_false, decide_true, decide_false, i2_0, i2_1, inL hc, decide_eq_false hx, meOk_app hc, app_ok hc hlen, finR_next, addN, if_neg hx]
    rw [exit_set]
    simp
theorem gather_op (k : Nat) (a b : Tm) (d n : Nat) (σ : Store) {L₁ L₂ : List Str} (h1 : callF prog d i_gather [.d (toD a), .loc n] σ = .ok (.d .none) (σ.set n (.lst (L₁.map .str)))) (h2 : callF prog d i_gather [.d (toD b), .loc n] (σ.set n (.lst (L₁.map .str))) = .ok (.d .none) ((σ.set n (.lst (L₁.map .str))).set n (.lst (L₂.map .str)))) :
    callF prog (d + 1) i_gather [.d (toD (.op k a b)), .loc n] σ = .ok (.d .none) (σ.set n (.lst (L₂.map .str))) := by
  rw [callF_is (fn := f_gather) rfl d _ _ rfl]
  show (execs prog.G (callF prog d) b_gather [.d (.tuple [.str (opS k), toD a, toD b]), .loc n] σ).bind (finR σ.length) = _
  unfold b_gather
  simp only [rb_ok, lift_some, o_map, eE_none, eE_bool, eE_int, eE_str, eE_var, eE_glob, eE_bin, eE_neg, eE_not, eE_bop, eB_one, eB_more, eE_cmp, eE_cmp2, eE_ite, eE_tup, eE_list, eE_dict0, eE_dict1, eE_idx, eE_slc, eE_call, eE_bi, eE_meth, eE_freeze, eL_nil, eL_cons, eO_no, eO_yes, eI_seq, eI_range, x_expr, x_asg, x_ite, x_ret, x_pass, x_put, x_for, xs_nil, xs_cons, stepO_next, stepO_ret, look_d, look_loc, look_locs, negR_int, noneR_none, pick_tt, pick_tf, pick_ft, pick_ff, pickO_t, pickO_f, pickB_t, t_bool, b_add, b_sub, c_lt, c_eqI, c_eqS, c_neS, List.getElem?_cons_zero, List.getElem?_cons_succ, List.set_cons_zero, List.set_cons_succ, Bool.not_true, Bool.not_false, decide_true, decide_false, i3_0, i3_1, i3_2, opS_num, opS_name, h1, h2, finR_next]
  rw [List.set_set, exit_set]
theorem call_gather (t : Tm) : ∀ (d n : Nat) (σ : Store) (L : List Str), ht t < d → σ[n]? = some (.lst (L.map .str)) → L.length + leaves t ≤ 1000 → callF prog d i_gather [.d (toD t), .loc n] σ = .ok (.d .none) (σ.set n (.lst ((gath t L).map .str))) := by
  induction t with
  | num i =>
    intro d n σ L hd hc hl
    obtain ⟨d, rfl⟩ : ∃ e, d = e + 1 := ⟨d - 1, by omega⟩
    rw [gather_num, gath, set_same hc]
  | name x =>
    intro d n σ L hd hc hl
    obtain ⟨d, rfl⟩ : ∃ e, d = e + 1 := ⟨d - 1, by omega⟩
    simp only [leaves] at hl
    exact gather_name x d n σ L hc (by omega)
  | op k a b iha ihb =>
    intro d n σ L hd hc hl
    obtain ⟨d, rfl⟩ : ∃ e, d = e + 1 := ⟨d - 1, by omega⟩
    simp only [ht, leaves] at hd hl
    have hlen := gath_len a L
    exact gather_op k a b d n σ (iha d n σ L (by omega) hc (by omega)) (ihb d n _ (gath a L) (by omega) (set_get hc) (by omega))
theorem snoc_get (σ : Store) (c : Cell) : (σ ++ [c])[σ.length]? = some c := by simp
theorem snoc_set (σ : Store) (c c' : Cell) : (σ ++ [c]).set σ.length c' = σ ++ [c'] := by simp
theorem mkL_t (l : List PyData) (σ : Store) : mkList true l σ = .ok (.loc σ.length) (σ ++ [.lst l]) := by simp [mkList]
theorem mkL_f (l : List PyData) (σ : Store) : mkList false l σ = .ok (.d (.list l)) σ := by simp [mkList]
theorem lock_none (σ : Store) : lockS none σ = σ := rfl
theorem unlock_none (l : List PyData) (σ : Store) : unlockS none l σ = σ := rfl
theorem frz_new (σ : Store) (l : List PyData) : frz (.loc σ.length) (σ ++ [.lst l]) = .ok (.d (.list l)) (σ ++ [.gone]) := by rw [frz_at (snoc_get _ _), snoc_set]
theorem exit_snoc (x : PyData) (σ : Store) (c : Cell) : exitV σ.length (.d x) (σ ++ [c]) = .ok (.d x) σ := exit_at x (by simp)
theorem exit_dct (σ : Store) (l : List (Str × PyData)) : exitV σ.length (.loc σ.length) (σ ++ [.dct l]) = .ok (.loc σ.length) (σ ++ [.dct l]) := by simp [exitV]
theorem exit_lst (σ : Store) (l : List PyData) : exitV σ.length (.loc σ.length) (σ ++ [.lst l]) = .ok (.loc σ.length) (σ ++ [.lst l]) := by simp [exitV]
theorem eqI_self (i : Int) : decide (i = i) = true := by simp

theorem call_names_in (t : Tm) (d : Nat) (σ : Store) (hd : ht t < d) (hl : leaves t ≤ 1000) : callF prog (d + 1) i_names_in [.d (toD t)] σ = .ok (.d (.list ((gath t []).map .str))) σ := by
  rw [callF_is (fn := f_names_in) rfl d _ _ rfl]
  show (execs prog.G (callF prog d) b_names_in [.d (toD t), .un] σ).bind (finR σ.length) = _
  unfold b_names_in
  have h := call_gather t d σ.length (σ ++ [.lst []]) [] hd (by simp) (by simpa using hl)
  simp only [rb_ok, lift_some, o_map, eE_none, eE_bool, eE_int, eE_str, eE_var, eE_glob, eE_bin, eE_neg, eE_not, eE_bop, eB_one, eB_more, eE_cmp, eE_cmp2, eE_ite, eE_tup, eE_list, eE_dict0, eE_dict1, eE_idx, eE_slc, eE_call, eE_bi, eE_meth, eE_freeze, eL_nil, eL_cons, eO_no, eO_yes, eI_seq, eI_range, x_expr, x_asg, x_ite, x_ret, x_pass, x_put, x_for, xs_nil, xs_cons, stepO_next, stepO_ret, look_d, look_loc, look_locs, negR_int, noneR_none, pick_tt, pick_tf, pick_ft, pick_ff, pickO_t, pickO_f, pickB_t, t_bool, b_add, b_sub, c_lt, c_eqI, c_eqS, c_neS, List.getElem?_cons_zero, List.getElem?_cons_succ, List.set_cons_zero, List.set_cons_succ, Bool.not_true, Bool.not_false, decide_true, decide_false, dispL_nil, mkL_t, h, snoc_set, frz_new, finR_ret, exit_snoc]

noncomputable def nms : Tm → List Str
  | .num _ => []
  | .name x => [x]
  | .op _ a b => nms a ++ nms b
theorem nms_len : ∀ t, (nms t).length ≤ leaves t
  | .num _ => by simp [nms]
  | .name x => by simp [nms, leaves]
  | .op _ a b => by have := nms_len a; have := nms_len b; simp only [nms, leaves, List.length_append]; omega
theorem call_names (t : Tm) : ∀ (d : Nat) (σ : Store), ht t < d → leaves t ≤ 1000 → callF prog d i_law_names [.d (toD t)] σ = .ok (.d (.list ((nms t).map .str))) σ := by
  induction t with
  | num i =>
    intro d σ hd hl
    obtain ⟨d, rfl⟩ : ∃ e, d = e + 1 := ⟨d - 1, by omega⟩
    rw [callF_is (fn := f_law_names) rfl d _ _ rfl]
    show (execs prog.G (callF prog d) b_law_names [.d (.tuple [.str s_num, .int i])] σ).bind (finR σ.length) = _
    unfold b_law_names
    simp only [rb_ok, lift_some, o_map, eE_none, eE_bool, eE_int, eE_str, eE_var, eE_glob, eE_bin, eE_neg, eE_not, eE_bop, eB_one, eB_more, eE_cmp, eE_cmp2, eE_ite, eE_tup, eE_list, eE_dict0, eE_dict1, eE_idx, eE_slc, eE_call, eE_bi, eE_meth, eE_freeze, eL_nil, eL_cons, eO_no, eO_yes, eI_seq, eI_range, x_expr, x_asg, x_ite, x_ret, x_pass, x_put, x_for, xs_nil, xs_cons, stepO_next, stepO_ret, look_d, look_loc, look_locs, negR_int, noneR_none, pick_tt, pick_tf, pick_ft, pick_ff, pickO_t, pickO_f, pickB_t, t_bool, b_add, b_sub, c_lt, c_eqI, c_eqS, c_neS, List.getElem?_cons_zero, List.getElem?_cons_succ, List.set_cons_zero, List.set_cons_succ, Bool.not_true, Bool.not_false, decide_true, decide_false, i2_0, i2_1, nn1, dispL_nil, mkL_f, finR_ret, exit_d, nms, List.map_nil]
  | name x =>
    intro d σ hd hl
    obtain ⟨d, rfl⟩ : ∃ e, d = e + 1 := ⟨d - 1, by omega⟩
    rw [callF_is (fn := f_law_names) rfl d _ _ rfl]
    show (execs prog.G (callF prog d) b_law_names [.d (.tuple [.str s_name, .str x])] σ).bind (finR σ.length) = _
    unfold b_law_names
    simp only [rb_ok, lift_some, o_map, eE_none, eE_bool, eE_int, eE_str, eE_var, eE_glob, eE_bin, eE_neg, eE_not, eE_bop, eB_one, eB_more, eE_cmp, eE_cmp2, eE_ite, eE_tup, eE_list, eE_dict0, eE_dict1, eE_idx, eE_slc, eE_call, eE_bi, eE_meth, eE_freeze, eL_nil, eL_cons, eO_no, eO_yes, eI_seq, eI_range, x_expr, x_asg, x_ite, x_ret, x_pass, x_put, x_for, xs_nil, xs_cons, stepO_next, stepO_ret, look_d, look_loc, look_locs, negR_int, noneR_none, pick_tt, pick_tf, pick_ft, pick_ff, pickO_t, pickO_f, pickB_t, t_bool, b_add, b_sub, c_lt, c_eqI, c_eqS, c_neS, List.getElem?_cons_zero, List.getElem?_cons_succ, List.set_cons_zero, List.set_cons_succ, Bool.not_true, Bool.not_false, decide_true, decide_false, i2_0, i2_1, dispL_one, mkL_f, finR_ret, exit_d, nms, List.map_nil, List.map_cons]
  | op k a b iha ihb =>
    intro d σ hd hl
    obtain ⟨d, rfl⟩ : ∃ e, d = e + 1 := ⟨d - 1, by omega⟩
    simp only [ht, leaves] at hd hl
    have h1 := iha d σ (by omega) (by omega)
    have h2 := ihb d σ (by omega) (by omega)
    have l1 := nms_len a
    have l2 := nms_len b
    have hlen : ((nms a).map PyData.str).length + ((nms b).map PyData.str).length ≤ LIM := by simp [LIM]; omega
    rw [callF_is (fn := f_law_names) rfl d _ _ rfl]
    show (execs prog.G (callF prog d) b_law_names [.d (.tuple [.str (opS k), toD a, toD b])] σ).bind (finR σ.length) = _
    unfold b_law_names
    simp only [rb_ok, lift_some, o_map, eE_none, eE_bool, eE_int, eE_str, eE_var, eE_glob, eE_bin, eE_neg, eE_not, eE_bop, eB_one, eB_more, eE_cmp, eE_cmp2, eE_ite, eE_tup, eE_list, eE_dict0, eE_dict1, eE_idx, eE_slc, eE_call, eE_bi, eE_meth, eE_freeze, eL_nil, eL_cons, eO_no, eO_yes, eI_seq, eI_range, x_expr, x_asg, x_ite, x_ret, x_pass, x_put, x_for, xs_nil, xs_cons, stepO_next, stepO_ret, look_d, look_loc, look_locs, negR_int, noneR_none, pick_tt, pick_tf, pick_ft, pick_ff, pickO_t, pickO_f, pickB_t, t_bool, b_add, b_sub, c_lt, c_eqI, c_eqS, c_neS, List.getElem?_cons_zero, List.getElem?_cons_succ, List.set_cons_zero, List.set_cons_succ, Bool.not_true, Bool.not_false, decide_true, decide_false, i3_0, i3_1, i3_2, opS_num, opS_name, h1, h2, b_addL hlen, mkL_f, finR_ret, exit_d, nms, List.map_append]

end Mine.L03

set_option autoImplicit false
set_option linter.unusedVariables false
set_option linter.unusedSimpArgs false
namespace Mine.L03
open PySem Mine

section
variable {G : Nat → Option PyData} {cf : Nat → List V → Store → Res V} {ρ ρ' : Fm} {σ σ' : Store}
theorem ite_t {c : E} {a b : SL} (h : evalE G cf c ρ σ = .ok (.d (.bool true)) σ') : exec G cf (.ite c a b) ρ σ = execs G cf a ρ σ' := by
  rw [x_ite, h, rb_ok, t_bool, lift_some, rb_ok, pickO_t]
theorem ite_f {c : E} {a b : SL} (h : evalE G cf c ρ σ = .ok (.d (.bool false)) σ') : exec G cf (.ite c a b) ρ σ = execs G cf b ρ σ' := by
  rw [x_ite, h, rb_ok, t_bool, lift_some, rb_ok, pickO_f]
theorem seq_next {s : S} {r : SL} (h : exec G cf s ρ σ = .ok (.next ρ') σ') : execs G cf (.cons s r) ρ σ = execs G cf r ρ' σ' := by
  rw [xs_cons, h, rb_ok, stepO_next]
theorem seq_ret {s : S} {r : SL} {v : V} (h : exec G cf s ρ σ = .ok (.ret v) σ') : execs G cf (.cons s r) ρ σ = .ok (.ret v) σ' := by
  rw [xs_cons, h, rb_ok, stepO_ret]
end

section
variable {G : Nat → Option PyData} {cf : Nat → List V → Store → Res V} {ρ : Fm} {σ : Store}
theorem and2 {e₁ e₂ : E} {a b : Bool} (h1 : evalE G cf e₁ ρ σ = .ok (.d (.bool a)) σ) (h2 : evalE G cf e₂ ρ σ = .ok (.d (.bool b)) σ) : evalE G cf (.bop true (.cons e₁ (.cons e₂ .nil))) ρ σ = .ok (.d (.bool (a && b))) σ := by
  cases a <;> simp only [eE_bop, eB_more, eB_one, h1, h2, rb_ok, t_bool, lift_some, pick_tt, pick_tf, Bool.true_and, Bool.false_and]
theorem or2 {e₁ e₂ : E} {a b : Bool} (h1 : evalE G cf e₁ ρ σ = .ok (.d (.bool a)) σ) (h2 : evalE G cf e₂ ρ σ = .ok (.d (.bool b)) σ) : evalE G cf (.bop false (.cons e₁ (.cons e₂ .nil))) ρ σ = .ok (.d (.bool (a || b))) σ := by
  cases a <;> simp only [eE_bop, eB_more, eB_one, h1, h2, rb_ok, t_bool, lift_some, pick_ff, pick_ft, Bool.true_or, Bool.false_or]
theorem and3 {e₁ e₂ e₃ : E} {a b c : Bool} (h1 : evalE G cf e₁ ρ σ = .ok (.d (.bool a)) σ) (h2 : evalE G cf e₂ ρ σ = .ok (.d (.bool b)) σ) (h3 : evalE G cf e₃ ρ σ = .ok (.d (.bool c)) σ) : evalE G cf (.bop true (.cons e₁ (.cons e₂ (.cons e₃ .nil)))) ρ σ = .ok (.d (.bool (a && (b && c)))) σ := by
  cases a <;> cases b <;> simp only [eE_bop, eB_more, eB_one, h1, h2, h3, rb_ok, t_bool, lift_some, pick_tt, pick_tf, Bool.true_and, Bool.false_and]
end
/-! comprehensions over a range -/
theorem skol {α : Type} (a0 : α) {p : Nat → Prop} {Q : Nat → α → Prop} (h : ∀ k, p k → ∃ r, Q k r) : ∃ g : Nat → α, ∀ k, p k → Q k (g k) := by
  classical exact ⟨fun k => if hk : p k then Classical.choose (h k hk) else a0, fun k hk => by show Q k (if hk : p k then Classical.choose (h k hk) else a0); rw [dif_pos hk]; exact Classical.choose_spec (h k hk)⟩
theorem compL_ks {f : PyData → Store → Res (Option PyData)} {σ : Store} (g : Nat → PyData) : ∀ ks : List Nat, (∀ k ∈ ks, f (.int (k : Int)) σ = .ok (some (g k)) σ) → compL f (ks.map fun (k : Nat) => PyData.int (0 + (k : Int))) σ = .ok (ks.map g) σ
  | [], _ => rfl
  | k :: ks, h => by
    rw [List.map_cons, cL_cons, Int.zero_add, h k (List.mem_cons_self ..), rb_ok, compL_ks g ks fun x hx => h x (List.mem_cons_of_mem _ hx), rb_ok]; rfl
theorem cF_no (cf : Nat → List V → Store → Res V) (i : Nat) (e : E) (ρ : Fm) (x : PyData) (σ : Store) {y : PyData} (h : evalE prog.G cf e (ρ.set i (.d x)) σ = .ok (.d y) σ) : compF' prog.G cf i .no e ρ x σ = .ok (some y) σ := by
  unfold compF'
  rw [eO_no, rb_ok]
  simp only [h, rb_ok, pureD, o_map, lift_some]
theorem comp_range (cf : Nat → List V → Store → Res V) {i : Nat} {e eb : E} {ρ : Fm} {σ : Store} {b : Int} (g : Nat → PyData) (hρ : evalE prog.G cf eb ρ σ = .ok (.d (.int b)) σ) (hb : 0 ≤ b ∧ b ≤ 1000) (h : ∀ k : Nat, (k : Int) < b → evalE prog.G cf e (ρ.set i (.d (.int k))) (σ ++ [.busy]) = .ok (.d (g k)) (σ ++ [.busy])) :
    evalE prog.G cf (.comp false (.var i) (.range eb) .no e) ρ σ = .ok (.d (.list ((List.range b.toNat).map g))) σ := by
  have hc := compL_ks (f := compF' prog.G cf i .no e ρ) (σ := σ ++ [.busy]) g (List.range b.toNat) fun k hk => cF_no cf i e ρ _ _ (h k (by have := List.mem_range.mp hk; omega))
  rw [eE_comp, eI_range, hρ, rb_ok, rangeR_int _ (by omega), rb_ok]
  show (compL _ ((List.range (b - 0).toNat).map fun (k : Nat) => PyData.int (0 + (k : Int))) (lockS none σ ++ [.busy])).bind _ = _
  rw [lock_none, Int.sub_zero, hc, rb_ok]
  show mkList false _ ((unlockS none [] (σ ++ [.busy])).take σ.length) = _
  rw [unlock_none]
  simp [mkList]

/-! words -/
theorem letter {i : Int} (h0 : 0 ≤ i) (h : i < 26) (σ : Store) : idxV (.d (.str s_abcdefghijklmnopqrstuvwxyz)) (.d (.int i)) σ = some (.d (.str (strOfL [97 + i.toNat]))) := by
  have hl : (strL s_abcdefghijklmnopqrstuvwxyz).length = 26 := by decide
  have ha : ∀ n, n < 26 → (strL s_abcdefghijklmnopqrstuvwxyz)[n]? = some (97 + n) := by decide
  rw [idx_str, index, hl, if_pos h0, if_pos (by omega)]
  show ((strL s_abcdefghijklmnopqrstuvwxyz)[i.toNat]?).map _ = _
  rw [ha _ (by omega)]; rfl
theorem strL_of (l : List Nat) : strL (strOfL l) = l := by simp [strL, strOfL]
theorem cps_of (l : List Nat) : (strOfL l).cps.size = l.length := by simp [strOfL]
theorem rep_len (a : Nat) : ∀ n : Nat, (List.replicate n [a]).flatten = List.replicate n a
  | 0 => rfl
  | n + 1 => by rw [List.replicate_succ, List.flatten_cons, rep_len a n]; rfl
theorem b_rep (a : Nat) {n : Int} (h0 : 0 ≤ n) (h : n ≤ 1000) (m : Bool) (σ : Store) : binV .mul m (.d (.str (strOfL [a]))) (.d (.int n)) σ = .ok (.d (.str (strOfL (List.replicate n.toNat a)))) σ := by
  rw [b_mulS ⟨h0, h, by rw [cps_of]; simp⟩, strL_of, rep_len]
theorem slice_len {α : Type} (l : List α) (lo hi : Option Int) : (sliceL l lo hi).length ≤ l.length := by
  unfold sliceL; rw [List.length_take, List.length_drop]
  exact Nat.le_trans (Nat.min_le_right _ _) (Nat.sub_le _ _)
theorem nodup_map {g : Nat → Str} {n : Nat} (h : ∀ i j, i < n → j < n → g i = g j → i = j) : ((List.range n).map g).Nodup := by
  rw [List.Nodup, List.pairwise_map]
  refine List.Pairwise.imp_of_mem (fun {a b} ha hb hne => ?_) (List.nodup_range (n := n))
  exact fun e => hne (h a b (List.mem_range.mp ha) (List.mem_range.mp hb) e)
theorem map_str (g : Nat → Str) (n : Nat) : (List.range n).map (fun k => PyData.str (g k)) = ((List.range n).map g).map .str := by rw [List.map_map]; rfl

theorem p26 : (0 : Int) < 26 := by decide
theorem p8 : (0 : Int) < 8 := by decide
theorem p3 : (0 : Int) < 3 := by decide
theorem q26 : (0 : Int) < 26 ∧ (26 : Int) < 9223372036854775808 := by decide
theorem q208 : (0 : Int) < 208 ∧ (208 : Int) < 9223372036854775808 := by decide
theorem q1664 : (0 : Int) < 1664 ∧ (1664 : Int) < 9223372036854775808 := by decide
theorem q4992 : (0 : Int) < 4992 ∧ (4992 : Int) < 9223372036854775808 := by decide
theorem m5l (c : Int) : mulOk 5 c = true := mulOk_l (by decide)
theorem oi_none : optInt none = some none := rfl
theorem oi_int (i : Int) : optInt (some (.d (.int i))) = some (some i) := rfl


theorem five_inj : ∀ i j : Fin 20, (5 * i.val) % 26 = (5 * j.val) % 26 → i = j := by decide
theorem mod_inj (m : Int) {i j : Nat} (hi : i < 20) (hj : j < 20) (h : ((m + 5 * (i : Int)) % 26).toNat = ((m + 5 * (j : Int)) % 26).toNat) : i = j := by
  have h1 := Int.emod_nonneg (m + 5 * (i : Int)) (by decide : (26 : Int) ≠ 0)
  have h2 := Int.emod_nonneg (m + 5 * (j : Int)) (by decide : (26 : Int) ≠ 0)
  have h3 : (m + 5 * (i : Int)) % 26 = (m + 5 * (j : Int)) % 26 := by
    rw [← Int.toNat_of_nonneg h1, ← Int.toNat_of_nonneg h2, h]
  have h4 : ((5 * i : Nat) : Int) % ((26 : Nat) : Int) = ((5 * j : Nat) : Int) % ((26 : Nat) : Int) := Int.emod_add_cancel_left.mp h3
  rw [← Int.natCast_emod, ← Int.natCast_emod] at h4
  exact congrArg Fin.val (five_inj ⟨i, hi⟩ ⟨j, hj⟩ (Int.ofNat_inj.mp h4))
theorem call_words (c many : Int) (hm : 0 ≤ many ∧ many ≤ 20) (d : Nat) (σ : Store) : ∃ ws : List Str, ws.length = many.toNat ∧ ws.Nodup ∧ ∀ (d : Nat) (σ : Store), callF prog (d + 1) i_law_words [.d (.int c), .d (.int many)] σ = .ok (.d (.list (ws.map .str))) σ := by
  have iy : ∀ σ', idxV (.d (.str s_abcdefghijklmnopqrstuvwxyz)) (.d (.int (c % 26))) σ' = some (.d (.str (strOfL [97 + (c % 26).toNat]))) := fun σ' => letter (Int.emod_nonneg c (by decide : (26 : Int) ≠ 0)) (Int.emod_lt_of_pos c p26) σ'
  have hn2 : 1 ≤ 1 + c / 26 % 8 := by have := Int.emod_nonneg (c / 26) (by decide : (8 : Int) ≠ 0); omega
  have hn1 : 1 + c / 26 % 8 ≤ 8 := by have := Int.emod_lt_of_pos (c / 26) p8; omega
  have ib := fun σ => b_rep (97 + (c % 26).toNat) (n := 1 + c / 26 % 8) (by omega) (by omega) false σ
  generalize hbase : List.replicate (1 + c / 26 % 8).toNat (97 + (c % 26).toNat) = base at ib
  have hbl : 0 < ((base.length : Nat) : Int) := by rw [← hbase, List.length_replicate]; omega
  have hbu : base.length ≤ 8 := by rw [← hbase, List.length_replicate]; omega
  have hat : strL (strOfL base) = base := strL_of base
  generalize hat' : c / 208 % ((base.length : Nat) : Int) = at'
  by_cases hk : c / 1664 % 3 = 1
  · refine ⟨(List.range many.toNat).map fun (k : Nat) => strOfL (List.replicate (1 + (k : Int)).toNat (97 + (c % 26).toNat)), by simp, nodup_map fun i j _ _ e => ?_, fun d σ => ?_⟩
    · have := congrArg (fun x => (strL x).length) e
      simp only [strL_of, List.length_replicate] at this
      omega
    · rw [callF_is (fn := f_law_words) rfl d _ _ rfl]
      show (execs prog.G (callF prog d) b_law_words [.d (.int c), .d (.int many), .un, .un, .un, .un, .un] σ).bind (finR σ.length) = _
      have e1 := comp_range (callF prog d) (i := 5) (eb := .var 1) (e := .bin .mul false (.idx (.var 2) (.bin .mod false (.var 0) (.int 26))) (.bin .add false (.int 1) (.var 5)))
        (ρ := [.d (.int c), .d (.int many), .d (.str s_abcdefghijklmnopqrstuvwxyz), .d (.str (strOfL base)), .d (.int at'), .un, .un]) (σ := σ) (b := many) (fun (k : Nat) => .str (strOfL (List.replicate (1 + (k : Int)).toNat (97 + (c % 26).toNat)))) rfl (by omega) (fun k hk => by
          have iz := b_rep (97 + (c % 26).toNat) (n := 1 + (k : Int)) (by omega) (by omega) false (σ ++ [.busy])
          simp only [rb_ok, lift_some, o_map, eE_none, eE_bool, eE_int, eE_str, eE_var, eE_glob, eE_bin, eE_neg, eE_not, eE_bop, eB_one, eB_more, eE_cmp, eE_cmp2, eE_ite, eE_tup, eE_list, eE_dict0, eE_dict1, eE_idx, eE_slc, eE_call, eE_bi, eE_meth, eE_freeze, eL_nil, eL_cons, eO_no, eO_yes, eI_seq, eI_range, x_expr, x_asg, x_ite, x_ret, x_pass, x_put, x_for, xs_nil, xs_cons, stepO_next, stepO_ret, look_d, look_loc, look_locs, negR_int, noneR_none, pick_tt, pick_tf, pick_ft, pick_ff, pickO_t, pickO_f, pickB_t, t_bool, b_add, b_sub, c_lt, c_eqI, c_eqS, c_neS, List.getElem?_cons_zero, List.getElem?_cons_succ, List.set_cons_zero, List.set_cons_succ, Bool.not_true, Bool.not_false, decide_true, decide_false, b_mod _ _ p26, iy, iz])
      rw [map_str] at e1
      unfold b_law_words
      simp only [rb_ok, lift_some, o_map, eE_none, eE_bool, eE_int, eE_str, eE_var, eE_glob, eE_bin, eE_neg, eE_not, eE_bop, eB_one, eB_more, eE_cmp, eE_cmp2, eE_ite, eE_tup, eE_list, eE_dict0, eE_dict1, eE_idx, eE_slc, eE_call, eE_bi, eE_meth, eE_freeze, eL_nil, eL_cons, eO_no, eO_yes, eI_seq, eI_range, x_expr, x_asg, x_ite, x_ret, x_pass, x_put, x_for, xs_nil, xs_cons, stepO_next, stepO_ret, look_d, look_loc, look_locs, negR_int, noneR_none, pick_tt, pick_tf, pick_ft, pick_ff, pickO_t, pickO_f, pickB_t, t_bool, b_add, b_sub, c_lt, c_eqI, c_eqS, c_neS, List.getElem?_cons_zero, List.getElem?_cons_succ, List.set_cons_zero, List.set_cons_succ, Bool.not_true, Bool.not_false, decide_true, decide_false, b_mod _ _ p26, iy, b_fdiv _ _ q26, b_mod _ _ p8, ib, b_fdiv _ _ q208, len_str, hat, b_mod _ _ hbl, hat', b_fdiv _ _ q1664, b_mod _ _ p3, decide_eq_true hk, e1, finR_ret, exit_d]
  · refine ⟨(List.range many.toNat).map fun (k : Nat) => strOfL (sliceL base none (some at') ++ [97 + ((c / 4992 + 5 * (k : Int)) % 26).toNat] ++ sliceL base (some (at' + 1)) none), by simp, nodup_map fun i j hi hj e => ?_, fun d σ => ?_⟩
    · have := congrArg strL e
      simp only [strL_of] at this
      have := List.append_cancel_left (List.append_cancel_right this)
      simp only [List.cons.injEq, and_true] at this
      exact mod_inj (c / 4992) (Nat.lt_of_lt_of_le hi (by omega)) (Nat.lt_of_lt_of_le hj (by omega)) (Nat.add_left_cancel this)
    · rw [callF_is (fn := f_law_words) rfl d _ _ rfl]
      show (execs prog.G (callF prog d) b_law_words [.d (.int c), .d (.int many), .un, .un, .un, .un, .un] σ).bind (finR σ.length) = _
      have s1 := slice_len base none (some at')
      have s2 := slice_len base (some (at' + 1)) none
      have e2 := comp_range (callF prog d) (i := 6) (eb := .var 1) (e := .bin .add false (.bin .add false (.slc false (.var 3) .no (.yes (.var 4))) (.idx (.var 2) (.bin .mod false (.bin .add false (.bin .fdiv false (.var 0) (.int 4992)) (.bin .mul false (.int 5) (.var 6))) (.int 26)))) (.slc false (.var 3) (.yes (.bin .add false (.var 4) (.int 1))) .no))
        (ρ := [.d (.int c), .d (.int many), .d (.str s_abcdefghijklmnopqrstuvwxyz), .d (.str (strOfL base)), .d (.int at'), .un, .un]) (σ := σ) (b := many) (fun (k : Nat) => .str (strOfL (sliceL base none (some at') ++ [97 + ((c / 4992 + 5 * (k : Int)) % 26).toNat] ++ sliceL base (some (at' + 1)) none))) rfl (by omega) (fun k hk => by
          have iz := letter (Int.emod_nonneg (c / 4992 + 5 * (k : Int)) (by decide : (26 : Int) ≠ 0)) (Int.emod_lt_of_pos _ p26) (σ ++ [.busy])
          have hc1 : (strOfL (sliceL base none (some at'))).cps.size + (strOfL [97 + ((c / 4992 + 5 * (k : Int)) % 26).toNat]).cps.size ≤ LIM := by rw [cps_of, cps_of, List.length_singleton]; unfold LIM; omega
          have hc2 : (strOfL (sliceL base none (some at') ++ [97 + ((c / 4992 + 5 * (k : Int)) % 26).toNat])).cps.size + (strOfL (sliceL base (some (at' + 1)) none)).cps.size ≤ LIM := by
            rw [cps_of, cps_of, List.length_append, List.length_singleton]; unfold LIM; omega
          simp only [rb_ok, lift_some, o_map, eE_none, eE_bool, eE_int, eE_str, eE_var, eE_glob, eE_bin, eE_neg, eE_not, eE_bop, eB_one, eB_more, eE_cmp, eE_cmp2, eE_ite, eE_tup, eE_list, eE_dict0, eE_dict1, eE_idx, eE_slc, eE_call, eE_bi, eE_meth, eE_freeze, eL_nil, eL_cons, eO_no, eO_yes, eI_seq, eI_range, x_expr, x_asg, x_ite, x_ret, x_pass, x_put, x_for, xs_nil, xs_cons, stepO_next, stepO_ret, look_d, look_loc, look_locs, negR_int, noneR_none, pick_tt, pick_tf, pick_ft, pick_ff, pickO_t, pickO_f, pickB_t, t_bool, b_add, b_sub, c_lt, c_eqI, c_eqS, c_neS, List.getElem?_cons_zero, List.getElem?_cons_succ, List.set_cons_zero, List.set_cons_succ, Bool.not_true, Bool.not_false, decide_true, decide_false, slc_str _ _ oi_none (oi_int _), slc_str _ _ (oi_int _) oi_none, b_fdiv _ _ q4992, b_mul _ _ (m5l _), b_mod _ _ p26, iz, b_cat hc1, strL_of, b_cat hc2])
      rw [map_str] at e2
      unfold b_law_words
      simp only [rb_ok, lift_some, o_map, eE_none, eE_bool, eE_int, eE_str, eE_var, eE_glob, eE_bin, eE_neg, eE_not, eE_bop, eB_one, eB_more, eE_cmp, eE_cmp2, eE_ite, eE_tup, eE_list, eE_dict0, eE_dict1, eE_idx, eE_slc, eE_call, eE_bi, eE_meth, eE_freeze, eL_nil, eL_cons, eO_no, eO_yes, eI_seq, eI_range, x_expr, x_asg, x_ite, x_ret, x_pass, x_put, x_for, xs_nil, xs_cons, stepO_next, stepO_ret, look_d, look_loc, look_locs, negR_int, noneR_none, pick_tt, pick_tf, pick_ft, pick_ff, pickO_t, pickO_f, pickB_t, t_bool, b_add, b_sub, c_lt, c_eqI, c_eqS, c_neS, List.getElem?_cons_zero, List.getElem?_cons_succ, List.set_cons_zero, List.set_cons_succ, Bool.not_true, Bool.not_false, decide_true, decide_false, b_mod _ _ p26, iy, b_fdiv _ _ q26, b_mod _ _ p8, ib, b_fdiv _ _ q208, len_str, hat, b_mod _ _ hbl, hat', b_fdiv _ _ q1664, b_mod _ _ p3, decide_eq_false hk, e2, finR_ret, exit_d]

/-! terms that are built -/
theorem p6 : (0 : Int) < 6 := by decide
theorem q6 : (0 : Int) < 6 ∧ (6 : Int) < 9223372036854775808 := by decide
theorem word_at {ws : List Str} {i : Int} (h0 : 0 ≤ i) (h : i < ws.length) (σ : Store) : ∃ w : Str, w ∈ ws ∧ idxV (.d (.list (ws.map .str))) (.d (.int i)) σ = some (.d (.str w)) := by
  have : i.toNat < ws.length := by omega
  exact ⟨ws[i.toNat], List.getElem_mem _, by rw [idx_list _ h0]; simp [this]⟩
theorem op_at (x : Int) (σ : Store) : ∃ k : Nat, idxV (.d (.list [.str s_sum, .str s_less, .str s_times])) (.d (.int (x % 3))) σ = some (.d (.str (opS k))) := by
  have h0 := Int.emod_nonneg x (by decide : (3 : Int) ≠ 0)
  have h1 := Int.emod_lt_of_pos x p3
  have h2 : (x % 3).toNat < 3 := (Int.toNat_lt h0).mpr h1
  rw [idx_list _ h0]
  generalize (x % 3).toNat = n at h2
  exact ⟨n, match n, h2 with
    | 0, _ => rfl
    | 1, _ => rfl
    | 2, _ => rfl⟩
theorem pM : (0 : Int) < 1000003 := by decide
noncomputable def T1 (ws : List Str) (deep : Nat) (t : Tm) : Prop := (∀ x ∈ nms t, x ∈ ws) ∧ ht t ≤ deep ∧ leaves t ≤ 2 ^ deep

noncomputable def termTail : SL := .cons (.asg (.var 4) (.idx (.list false (.cons (.str s_sum) (.cons (.str s_less) (.cons (.str s_times) (.nil))))) (.bin .mod false (.bin .fdiv false (.var 0) (.int 6)) (.int 3)))) (.cons (.ret (.tup (.cons (.var 4) (.cons (.call i_law_term (.cons (.call i_law_mixed (.cons (.var 0) (.cons (.int 1) (.nil)))) (.cons (.var 1) (.cons (.bin .sub false (.var 2) (.int 1)) (.nil))))) (.cons (.call i_law_term (.cons (.call i_law_mixed (.cons (.var 0) (.cons (.int 2) (.nil)))) (.cons (.var 1) (.cons (.bin .sub false (.var 2) (.int 1)) (.nil))))) (.nil)))))) .nil)
theorem term_low (cf : Nat → List V → Store → Res V) {ws : List Str} (hw : 0 < ws.length) (c D : Int) (σ : Store) : (∃ t, ((∀ x ∈ nms t, x ∈ ws) ∧ ht t = 0 ∧ leaves t = 1) ∧ execs prog.G cf b_law_term [.d (.int c), .d (.list (ws.map .str)), .d (.int D), .un, .un] σ = .ok (.ret (.d (toD t))) σ) ∨ (D ≠ 0 ∧ execs prog.G cf b_law_term [.d (.int c), .d (.list (ws.map .str)), .d (.int D), .un, .un] σ = execs prog.G cf termTail [.d (.int c), .d (.list (ws.map .str)), .d (.int D), .d (.int (c % 6)), .un] σ) := by
  have hwl : 0 < (((ws.map PyData.str).length : Nat) : Int) := by rw [List.length_map]; exact Int.ofNat_lt.mpr hw
  obtain ⟨w, hwm, hw'⟩ := word_at (ws := ws) (i := c / 6 % ((ws.map PyData.str).length : Int)) (Int.emod_nonneg _ (Int.ne_of_gt hwl)) (by have := Int.emod_lt_of_pos (c / 6) hwl; rw [List.length_map] at this ⊢; exact this) σ
  have s1 : exec prog.G cf (.asg (.var 3) (.bin .mod false (.var 0) (.int 6))) [.d (.int c), .d (.list (ws.map .str)), .d (.int D), .un, .un] σ = .ok (.next [.d (.int c), .d (.list (ws.map .str)), .d (.int D), .d (.int (c % 6)), .un]) σ := by simp only [rb_ok, lift_some, o_map, eE_none, eE_bool, eE_int, eE_str, eE_var, eE_glob, eE_bin, eE_neg, eE_not, eE_bop, eB_one, eB_more, eE_cmp, eE_cmp2, eE_ite, eE_tup, eE_list, eE_dict0, eE_dict1, eE_idx, eE_slc, eE_call, eE_bi, eE_meth, eE_freeze, eL_nil, eL_cons, eO_no, eO_yes, eI_seq, eI_range, x_expr, x_asg, x_ite, x_ret, x_pass, x_put, x_for, xs_nil, xs_cons, stepO_next, stepO_ret, look_d, look_loc, look_locs, negR_int, noneR_none, pick_tt, pick_tf, pick_ft, pick_ff, pickO_t, pickO_f, pickB_t, t_bool, b_add, b_sub, c_lt, c_eqI, c_eqS, c_neS, List.getElem?_cons_zero, List.getElem?_cons_succ, List.set_cons_zero, List.set_cons_succ, Bool.not_true, Bool.not_false, decide_true, decide_false, b_mod _ _ p6]
  have k1 : evalE prog.G cf (.cmp .eq (.var 3) (.int 0)) [.d (.int c), .d (.list (ws.map .str)), .d (.int D), .d (.int (c % 6)), .un] σ = .ok (.d (.bool (decide (c % 6 = 0)))) σ := by simp only [rb_ok, lift_some, o_map, eE_none, eE_bool, eE_int, eE_str, eE_var, eE_glob, eE_bin, eE_neg, eE_not, eE_bop, eB_one, eB_more, eE_cmp, eE_cmp2, eE_ite, eE_tup, eE_list, eE_dict0, eE_dict1, eE_idx, eE_slc, eE_call, eE_bi, eE_meth, eE_freeze, eL_nil, eL_cons, eO_no, eO_yes, eI_seq, eI_range, x_expr, x_asg, x_ite, x_ret, x_pass, x_put, x_for, xs_nil, xs_cons, stepO_next, stepO_ret, look_d, look_loc, look_locs, negR_int, noneR_none, pick_tt, pick_tf, pick_ft, pick_ff, pickO_t, pickO_f, pickB_t, t_bool, b_add, b_sub, c_lt, c_eqI, c_eqS, c_neS, List.getElem?_cons_zero, List.getElem?_cons_succ, List.set_cons_zero, List.set_cons_succ, Bool.not_true, Bool.not_false, decide_true, decide_false]
  have k2 : evalE prog.G cf (.cmp .eq (.var 3) (.int 1)) [.d (.int c), .d (.list (ws.map .str)), .d (.int D), .d (.int (c % 6)), .un] σ = .ok (.d (.bool (decide (c % 6 = 1)))) σ := by simp only [rb_ok, lift_some, o_map, eE_none, eE_bool, eE_int, eE_str, eE_var, eE_glob, eE_bin, eE_neg, eE_not, eE_bop, eB_one, eB_more, eE_cmp, eE_cmp2, eE_ite, eE_tup, eE_list, eE_dict0, eE_dict1, eE_idx, eE_slc, eE_call, eE_bi, eE_meth, eE_freeze, eL_nil, eL_cons, eO_no, eO_yes, eI_seq, eI_range, x_expr, x_asg, x_ite, x_ret, x_pass, x_put, x_for, xs_nil, xs_cons, stepO_next, stepO_ret, look_d, look_loc, look_locs, negR_int, noneR_none, pick_tt, pick_tf, pick_ft, pick_ff, pickO_t, pickO_f, pickB_t, t_bool, b_add, b_sub, c_lt, c_eqI, c_eqS, c_neS, List.getElem?_cons_zero, List.getElem?_cons_succ, List.set_cons_zero, List.set_cons_succ, Bool.not_true, Bool.not_false, decide_true, decide_false]
  have k3 : evalE prog.G cf (.bop false (.cons (.cmp .lt (.var 3) (.int 4)) (.cons (.cmp .eq (.var 2) (.int 0)) (.nil)))) [.d (.int c), .d (.list (ws.map .str)), .d (.int D), .d (.int (c % 6)), .un] σ = .ok (.d (.bool (decide (c % 6 < 4) || decide (D = 0)))) σ := or2 (by simp only [rb_ok, lift_some, o_map, eE_none, eE_bool, eE_int, eE_str, eE_var, eE_glob, eE_bin, eE_neg, eE_not, eE_bop, eB_one, eB_more, eE_cmp, eE_cmp2, eE_ite, eE_tup, eE_list, eE_dict0, eE_dict1, eE_idx, eE_slc, eE_call, eE_bi, eE_meth, eE_freeze, eL_nil, eL_cons, eO_no, eO_yes, eI_seq, eI_range, x_expr, x_asg, x_ite, x_ret, x_pass, x_put, x_for, xs_nil, xs_cons, stepO_next, stepO_ret, look_d, look_loc, look_locs, negR_int, noneR_none, pick_tt, pick_tf, pick_ft, pick_ff, pickO_t, pickO_f, pickB_t, t_bool, b_add, b_sub, c_lt, c_eqI, c_eqS, c_neS, List.getElem?_cons_zero, List.getElem?_cons_succ, List.set_cons_zero, List.set_cons_succ, Bool.not_true, Bool.not_false, decide_true, decide_false]) (by simp only [rb_ok, lift_some, o_map, eE_none, eE_bool, eE_int, eE_str, eE_var, eE_glob, eE_bin, eE_neg, eE_not, eE_bop, eB_one, eB_more, eE_cmp, eE_cmp2, eE_ite, eE_tup, eE_list, eE_dict0, eE_dict1, eE_idx, eE_slc, eE_call, eE_bi, eE_meth, eE_freeze, eL_nil, eL_cons, eO_no, eO_yes, eI_seq, eI_range, x_expr, x_asg, x_ite, x_ret, x_pass, x_put, x_for, xs_nil, xs_cons, stepO_next, stepO_ret, look_d, look_loc, look_locs, negR_int, noneR_none, pick_tt, pick_tf, pick_ft, pick_ff, pickO_t, pickO_f, pickB_t, t_bool, b_add, b_sub, c_lt, c_eqI, c_eqS, c_neS, List.getElem?_cons_zero, List.getElem?_cons_succ, List.set_cons_zero, List.set_cons_succ, Bool.not_true, Bool.not_false, decide_true, decide_false])
  by_cases h0 : c % 6 = 0
  · rw [decide_eq_true h0] at k1
    refine .inl ⟨.num (c / 6 % 3), ⟨(fun x hx => by cases hx), rfl, rfl⟩, (seq_next s1).trans (seq_ret ((ite_t k1).trans ?_))⟩
    simp only [rb_ok, lift_some, o_map, eE_none, eE_bool, eE_int, eE_str, eE_var, eE_glob, eE_bin, eE_neg, eE_not, eE_bop, eB_one, eB_more, eE_cmp, eE_cmp2, eE_ite, eE_tup, eE_list, eE_dict0, eE_dict1, eE_idx, eE_slc, eE_call, eE_bi, eE_meth, eE_freeze, eL_nil, eL_cons, eO_no, eO_yes, eI_seq, eI_range, x_expr, x_asg, x_ite, x_ret, x_pass, x_put, x_for, xs_nil, xs_cons, stepO_next, stepO_ret, look_d, look_loc, look_locs, negR_int, noneR_none, pick_tt, pick_tf, pick_ft, pick_ff, pickO_t, pickO_f, pickB_t, t_bool, b_add, b_sub, c_lt, c_eqI, c_eqS, c_neS, List.getElem?_cons_zero, List.getElem?_cons_succ, List.set_cons_zero, List.set_cons_succ, Bool.not_true, Bool.not_false, decide_true, decide_false, b_fdiv _ _ q6, b_mod _ _ p3, dispT_two, toD]
  · rw [decide_eq_false h0] at k1
    have z1 := fun (a r : SL) => seq_next (r := r) ((ite_f (a := a) (b := .nil) k1).trans (xs_nil ..))
    by_cases h1 : c % 6 = 1
    · rw [decide_eq_true h1] at k2
      refine .inl ⟨.num (c / 6 % 1000003), ⟨(fun x hx => by cases hx), rfl, rfl⟩, (seq_next s1).trans ((z1 _ _).trans (seq_ret ((ite_t k2).trans ?_)))⟩
      simp only [rb_ok, lift_some, o_map, eE_none, eE_bool, eE_int, eE_str, eE_var, eE_glob, eE_bin, eE_neg, eE_not, eE_bop, eB_one, eB_more, eE_cmp, eE_cmp2, eE_ite, eE_tup, eE_list, eE_dict0, eE_dict1, eE_idx, eE_slc, eE_call, eE_bi, eE_meth, eE_freeze, eL_nil, eL_cons, eO_no, eO_yes, eI_seq, eI_range, x_expr, x_asg, x_ite, x_ret, x_pass, x_put, x_for, xs_nil, xs_cons, stepO_next, stepO_ret, look_d, look_loc, look_locs, negR_int, noneR_none, pick_tt, pick_tf, pick_ft, pick_ff, pickO_t, pickO_f, pickB_t, t_bool, b_add, b_sub, c_lt, c_eqI, c_eqS, c_neS, List.getElem?_cons_zero, List.getElem?_cons_succ, List.set_cons_zero, List.set_cons_succ, Bool.not_true, Bool.not_false, decide_true, decide_false, b_fdiv _ _ q6, b_mod _ _ pM, dispT_two, toD]
    · rw [decide_eq_false h1] at k2
      have z2 := fun (a r : SL) => seq_next (r := r) ((ite_f (a := a) (b := .nil) k2).trans (xs_nil ..))
      cases h4 : (decide (c % 6 < 4) || decide (D = 0)) with
      | true =>
        rw [h4] at k3
        refine .inl ⟨.name w, ⟨(fun x hx => by rw [List.mem_singleton.mp hx]; exact hwm), rfl, rfl⟩, (seq_next s1).trans ((z1 _ _).trans ((z2 _ _).trans (seq_ret ((ite_t k3).trans ?_))))⟩
        simp only [rb_ok, lift_some, o_map, eE_none, eE_bool, eE_int, eE_str, eE_var, eE_glob, eE_bin, eE_neg, eE_not, eE_bop, eB_one, eB_more, eE_cmp, eE_cmp2, eE_ite, eE_tup, eE_list, eE_dict0, eE_dict1, eE_idx, eE_slc, eE_call, eE_bi, eE_meth, eE_freeze, eL_nil, eL_cons, eO_no, eO_yes, eI_seq, eI_range, x_expr, x_asg, x_ite, x_ret, x_pass, x_put, x_for, xs_nil, xs_cons, stepO_next, stepO_ret, look_d, look_loc, look_locs, negR_int, noneR_none, pick_tt, pick_tf, pick_ft, pick_ff, pickO_t, pickO_f, pickB_t, t_bool, b_add, b_sub, c_lt, c_eqI, c_eqS, c_neS, List.getElem?_cons_zero, List.getElem?_cons_succ, List.set_cons_zero, List.set_cons_succ, Bool.not_true, Bool.not_false, decide_true, decide_false, b_fdiv _ _ q6, len_list, b_mod _ _ hwl, hw', dispT_two, toD]
      | false =>
        rw [h4] at k3
        refine .inr ⟨fun hD => ?_, (seq_next s1).trans ((z1 _ _).trans ((z2 _ _).trans (seq_next ((ite_f k3).trans (xs_nil ..)))))⟩
        rw [decide_eq_true hD, Bool.or_true] at h4; cases h4
theorem call_term (ws : List Str) (hw : 0 < ws.length) : ∀ (deep d : Nat) (c : Int) (σ : Store), deep + 1 < d → ∃ t, T1 ws deep t ∧ callF prog d i_law_term [.d (.int c), .d (.list (ws.map .str)), .d (.int deep)] σ = .ok (.d (toD t)) σ := by
  intro deep
  induction deep with
  | zero =>
    intro d c σ hd
    obtain ⟨d, rfl⟩ : ∃ e, d = e + 1 := ⟨d - 1, by omega⟩
    rcases term_low (callF prog d) hw c 0 σ with ⟨t, ⟨h1, h2, h3⟩, e⟩ | ⟨h, _⟩
    · refine ⟨t, ⟨h1, Nat.le_of_eq h2, Nat.le_of_eq h3⟩, ?_⟩
      rw [callF_is (fn := f_law_term) rfl d _ _ rfl]
      exact (congrArg (fun r => Res.bind r (finR σ.length)) e).trans (exit_d _ σ)
    · exact absurd rfl h
  | succ deep ih =>
    intro d c σ hd
    obtain ⟨d, rfl⟩ : ∃ e, d = e + 1 := ⟨d - 1, by omega⟩
    rcases term_low (callF prog d) hw c ((deep + 1 : Nat) : Int) σ with ⟨t, ⟨h1, h2, h3⟩, e⟩ | ⟨_, e⟩
    · refine ⟨t, ⟨h1, by rw [h2]; exact Nat.zero_le _, by rw [h3]; exact Nat.one_le_two_pow⟩, ?_⟩
      rw [callF_is (fn := f_law_term) rfl d _ _ rfl]
      exact (congrArg (fun r => Res.bind r (finR σ.length)) e).trans (exit_d _ σ)
    · have hp2 : 2 ^ (deep + 1) = 2 ^ deep + 2 ^ deep := by rw [Nat.pow_succ]; omega
      obtain ⟨k, hk⟩ := op_at (c / 6) σ
      obtain ⟨a, ha, ea⟩ := ih d (mixV c 1) σ (by omega)
      obtain ⟨b, hb, eb⟩ := ih d (mixV c 2) σ (by omega)
      have m1 : callF prog d i_law_mixed [.d (.int c), .d (.int 1)] σ = .ok (.d (.int (mixV c 1))) σ := by
        obtain ⟨d', rfl⟩ : ∃ e, d = e + 1 := ⟨d - 1, by omega⟩
        exact call_mixed d' c 1 σ
      have m2 : callF prog d i_law_mixed [.d (.int c), .d (.int 2)] σ = .ok (.d (.int (mixV c 2))) σ := by
        obtain ⟨d', rfl⟩ : ∃ e, d = e + 1 := ⟨d - 1, by omega⟩
        exact call_mixed d' c 2 σ
      have hds : ((deep + 1 : Nat) : Int) - 1 = (deep : Int) := by omega
      have tail : execs prog.G (callF prog d) termTail [.d (.int c), .d (.list (ws.map .str)), .d (.int ((deep + 1 : Nat) : Int)), .d (.int (c % 6)), .un] σ = .ok (.ret (.d (.tuple [.str (opS k), toD a, toD b]))) σ := by
        generalize ((deep + 1 : Nat) : Int) = D at *
        unfold termTail
        simp only [rb_ok, lift_some, o_map, eE_none, eE_bool, eE_int, eE_str, eE_var, eE_glob, eE_bin, eE_neg, eE_not, eE_bop, eB_one, eB_more, eE_cmp, eE_cmp2, eE_ite, eE_tup, eE_list, eE_dict0, eE_dict1, eE_idx, eE_slc, eE_call, eE_bi, eE_meth, eE_freeze, eL_nil, eL_cons, eO_no, eO_yes, eI_seq, eI_range, x_expr, x_asg, x_ite, x_ret, x_pass, x_put, x_for, xs_nil, xs_cons, stepO_next, stepO_ret, look_d, look_loc, look_locs, negR_int, noneR_none, pick_tt, pick_tf, pick_ft, pick_ff, pickO_t, pickO_f, pickB_t, t_bool, b_add, b_sub, c_lt, c_eqI, c_eqS, c_neS, List.getElem?_cons_zero, List.getElem?_cons_succ, List.set_cons_zero, List.set_cons_succ, Bool.not_true, Bool.not_false, decide_true, decide_false, b_fdiv _ _ q6, b_mod _ _ p3, dispL_three, hk, m1, m2, hds, ea, eb, dispT_three]
      refine ⟨.op k a b, ⟨fun x hx => (List.mem_append.mp hx).elim (ha.1 x) (hb.1 x), Nat.succ_le_succ (Nat.max_le.mpr ⟨ha.2.1, hb.2.1⟩), by rw [hp2]; exact Nat.add_le_add ha.2.2 hb.2.2⟩, ?_⟩
      rw [callF_is (fn := f_law_term) rfl d _ _ rfl]
      exact (congrArg (fun r => Res.bind r (finR σ.length)) (e.trans tail)).trans (exit_d _ σ)
end Mine.L03

set_option autoImplicit false
set_option linter.unusedVariables false
set_option linter.unusedSimpArgs false
namespace Mine.L03
open PySem Mine

/-! rows -/
mutual
inductive Rw where
  | set (x : Str) (t : Tm)
  | tell (t : Tm)
  | call (o : Option Str) (f : PyData) (ts : List Tm)
  | whn (t : Tm) (b : RL)
  | aga (n : Int) (b : RL)
inductive RL where
  | nil
  | cons (r : Rw) (b : RL)
end
noncomputable def optS : Option Str → PyData
  | none => .none
  | some x => .str x
mutual
noncomputable def toR : Rw → PyData
  | .set x t => .tuple [.str s_set, .str x, toD t]
  | .tell t => .tuple [.str s_tell, toD t]
  | .call o f ts => .tuple [.str s_call, optS o, f, .tuple (ts.map toD)]
  | .whn t b => .tuple [.str s_when, toD t, .tuple (toRL b)]
  | .aga n b => .tuple [.str s_again, .int n, .tuple (toRL b)]
noncomputable def toRL : RL → List PyData
  | .nil => []
  | .cons r b => toR r :: toRL b
end
mutual
noncomputable def hR : Rw → Nat
  | .whn _ b => hL b + 1
  | .aga _ b => hL b + 1
  | _ => 0
noncomputable def hL : RL → Nat
  | .nil => 0
  | .cons r b => max (hR r) (hL b)
end
mutual
noncomputable def nR : Rw → Nat
  | .whn _ b => nL b + 1
  | .aga _ b => nL b + 1
  | _ => 1
noncomputable def nL : RL → Nat
  | .nil => 0
  | .cons r b => nR r + nL b
end
noncomputable def okN (ws : List Str) (t : Tm) : Prop := (∀ x ∈ nms t, x ∈ ws) ∧ ht t ≤ 2 ∧ leaves t ≤ 4
mutual
noncomputable def okR (ws : List Str) : Rw → Prop
  | .set x t => x ∈ ws ∧ okN ws t
  | .tell t => okN ws t
  | .call o _ ts => (∀ x, o = some x → x ∈ ws) ∧ (∀ t ∈ ts, okN ws t) ∧ ts.length ≤ 4
  | .whn t b => okN ws t ∧ okL ws b
  | .aga _ b => okL ws b
noncomputable def okL (ws : List Str) : RL → Prop
  | .nil => True
  | .cons r b => okR ws r ∧ okL ws b
end
theorem okN_of {ws : List Str} {deep : Nat} {t : Tm} (hd : deep ≤ 2) (h : T1 ws deep t) : okN ws t := by
  refine ⟨h.1, Nat.le_trans h.2.1 hd, Nat.le_trans h.2.2 ?_⟩
  exact Nat.le_trans (Nat.pow_le_pow_right (by decide) hd) (by decide)
noncomputable def mkRL : List Rw → RL
  | [] => .nil
  | r :: l => .cons r (mkRL l)
theorem toRL_mk : ∀ l : List Rw, toRL (mkRL l) = l.map toR
  | [] => rfl
  | r :: l => congrArg (toR r :: ·) (toRL_mk l)
theorem okL_mk {ws : List Str} : ∀ l : List Rw, (∀ r ∈ l, okR ws r) → okL ws (mkRL l)
  | [], _ => trivial
  | r :: l, h => ⟨h r (List.mem_cons_self ..), okL_mk l fun x hx => h x (List.mem_cons_of_mem _ hx)⟩
theorem hL_mk {n : Nat} : ∀ l : List Rw, (∀ r ∈ l, hR r ≤ n) → hL (mkRL l) ≤ n
  | [], _ => Nat.zero_le _
  | r :: l, h => Nat.max_le.mpr ⟨h r (List.mem_cons_self ..), hL_mk l fun x hx => h x (List.mem_cons_of_mem _ hx)⟩
theorem nL_mk {n : Nat} : ∀ l : List Rw, (∀ r ∈ l, nR r ≤ n) → nL (mkRL l) ≤ l.length * n
  | [], _ => Nat.zero_le _
  | r :: l, h => by
    have h1 := h r (List.mem_cons_self ..)
    have h2 := nL_mk l fun x hx => h x (List.mem_cons_of_mem _ hx)
    have e : nL (mkRL (r :: l)) = nR r + nL (mkRL l) := rfl
    rw [e, List.length_cons, Nat.succ_mul]; omega

/-! functions -/
structure Fd where
  nm : Str
  ps : List Str
  rs : RL
  t : Tm
noncomputable def toF (f : Fd) : PyData := .tuple [.str f.nm, .tuple (f.ps.map .str), .tuple (toRL f.rs), toD f.t]
noncomputable def okF (ws : List Str) (f : Fd) : Prop := (∀ x ∈ f.ps, x ∈ ws) ∧ f.ps.length ≤ 4 ∧ okL ws f.rs ∧ hL f.rs ≤ 9 ∧ nL f.rs ≤ 400 ∧ okN ws f.t

/-! tools -/
theorem slc_list (m : Bool) (x : List PyData) {lo hi : Option V} {l h : Option Int} (hl : optInt lo = some l) (hh : optInt hi = some h) (σ : Store) : slcV m (.d (.list x)) lo hi σ = mkList m (sliceL x l h) σ := by
  unfold slcV
  rw [hl, hh]; rfl
theorem slc_tup (m : Bool) (x : List PyData) {lo hi : Option V} {l h : Option Int} (hl : optInt lo = some l) (hh : optInt hi = some h) (σ : Store) : slcV m (.d (.tuple x)) lo hi σ = .ok (.d (.tuple (sliceL x l h))) σ := by
  unfold slcV
  rw [hl, hh]
theorem slice_map {α β : Type} (f : α → β) (l : List α) (lo hi : Option Int) : sliceL (l.map f) lo hi = (sliceL l lo hi).map f := by
  unfold sliceL
  rw [List.length_map, List.map_take, List.map_drop]
theorem slice_mem {α : Type} {l : List α} {lo hi : Option Int} {x : α} (h : x ∈ sliceL l lo hi) : x ∈ l := List.mem_of_mem_drop (List.mem_of_mem_take h)
theorem int_bool (m : Bool) (b : Bool) (σ : Store) : biV .int m [.d (.bool b)] σ = .ok (.d (.int (if b then 1 else 0))) σ := byR rfl
theorem len_tup (m : Bool) (l : List PyData) (σ : Store) : biV .len m [.d (.tuple l)] σ = .ok (.d (.int l.length)) σ := byR rfl
theorem tup_list (m : Bool) (l : List PyData) (σ : Store) : biV .tuple m [.d (.list l)] σ = .ok (.d (.tuple l)) σ := byR rfl
theorem list_tup (m : Bool) (l : List PyData) (σ : Store) : biV .list m [.d (.tuple l)] σ = mkList m l σ := byR rfl
theorem c_gt (x y : Int) (σ : Store) : cmpV .gt (.d (.int x)) (.d (.int y)) σ = some (decide (x > y)) := byR rfl
theorem eq_nilL (l : List PyData) (σ : Store) : eqV σ (.d (.list l)) (.d (.list [])) = some l.isEmpty := by
  have e : eqV σ (.d (.list l)) (.d (.list [])) = eqD (.list l) (.list []) := rfl
  rw [e, eqD_flat (Nat.le_trans (Nat.min_le_right _ _) (by decide))]
  cases l <;> rfl
theorem eq_nilT (l : List PyData) (σ : Store) : eqV σ (.d (.tuple l)) (.d (.tuple [])) = some l.isEmpty := by
  have e : eqV σ (.d (.tuple l)) (.d (.tuple [])) = eqD (.tuple l) (.tuple []) := rfl
  rw [e, eqD_flat (Nat.le_trans (Nat.min_le_right _ _) (by decide))]
  cases l <;> rfl
theorem dispT_nil (σ : Store) : dispT [] σ = .ok (.d (.tuple [])) σ := byR rfl
theorem dispT_one (a : PyData) (σ : Store) : dispT [.d a] σ = .ok (.d (.tuple [a])) σ := byR rfl
theorem dispT_four (a b c d : PyData) (σ : Store) : dispT [.d a, .d b, .d c, .d d] σ = .ok (.d (.tuple [a, b, c, d])) σ := byR rfl
section
variable (σ : Store) (a b c d : PyData)
theorem i4_0 : idxV (.d (.tuple [a, b, c, d])) (.d (.int 0)) σ = some (.d a) := idx_tupN σ [a, b, c, d] 0
theorem i4_1 : idxV (.d (.tuple [a, b, c, d])) (.d (.int 1)) σ = some (.d b) := idx_tupN σ [a, b, c, d] 1
theorem i4_2 : idxV (.d (.tuple [a, b, c, d])) (.d (.int 2)) σ = some (.d c) := idx_tupN σ [a, b, c, d] 2
theorem i4_3 : idxV (.d (.tuple [a, b, c, d])) (.d (.int 3)) σ = some (.d d) := idx_tupN σ [a, b, c, d] 3
end
theorem tf_0 (f : Fd) (σ : Store) : idxV (.d (toF f)) (.d (.int 0)) σ = some (.d (.str f.nm)) := i4_0 ..
theorem tf_1 (f : Fd) (σ : Store) : idxV (.d (toF f)) (.d (.int 1)) σ = some (.d (.tuple (f.ps.map .str))) := i4_1 ..
theorem tf_2 (f : Fd) (σ : Store) : idxV (.d (toF f)) (.d (.int 2)) σ = some (.d (.tuple (toRL f.rs))) := i4_2 ..
theorem tf_3 (f : Fd) (σ : Store) : idxV (.d (toF f)) (.d (.int 3)) σ = some (.d (toD f.t)) := i4_3 ..
theorem idx_at {l : List PyData} {i : Int} (h0 : 0 ≤ i) (h : i < l.length) (σ : Store) : ∃ x, x ∈ l ∧ idxV (.d (.list l)) (.d (.int i)) σ = some (.d x) := by
  have : i.toNat < l.length := by omega
  exact ⟨l[i.toNat], List.getElem_mem _, by rw [idx_list _ h0, List.getElem?_eq_getElem this]; rfl⟩
theorem emod_range (x : Int) {m : Int} (h : 0 < m) : 0 ≤ x % m ∧ x % m < m := ⟨Int.emod_nonneg _ (Int.ne_of_gt h), Int.emod_lt_of_pos _ h⟩

/-! given -/
theorem q2 : (0 : Int) < 2 ∧ (2 : Int) < 9223372036854775808 := by decide
theorem p2 : (0 : Int) < 2 := by decide
theorem call_given {ws : List Str} (hw : 0 < ws.length) {x : Str} (hx : x ∈ ws) (c : Int) (d : Nat) (σ : Store) : ∃ t, T1 ws 1 t ∧ callF prog (d + 4) i_law_given [.d (.int c), .d (.list (ws.map .str)), .d (.str x)] σ = .ok (.d (toD t)) σ := by
  rw [callF_is (fn := f_law_given) rfl (d + 3) _ _ rfl]
  show ∃ t, _ ∧ (execs prog.G (callF prog (d + 3)) b_law_given [.d (.int c), .d (.list (ws.map .str)), .d (.str x)] σ).bind (finR σ.length) = _
  unfold b_law_given
  by_cases h : c % 2 = 0
  · refine ⟨.name x, ⟨fun y hy => by simp [nms] at hy; rw [hy]; exact hx, by simp [ht], by simp [leaves]⟩, ?_⟩
    simp only [rb_ok, lift_some, o_map, eE_none, eE_bool, eE_int, eE_str, eE_var, eE_glob, eE_bin, eE_neg, eE_not, eE_bop, eB_one, eB_more, eE_cmp, eE_cmp2, eE_ite, eE_tup, eE_list, eE_dict0, eE_dict1, eE_idx, eE_slc, eE_call, eE_bi, eE_meth, eE_freeze, eL_nil, eL_cons, eO_no, eO_yes, eI_seq, eI_range, x_expr, x_asg, x_ite, x_ret, x_pass, x_put, x_for, xs_nil, xs_cons, stepO_next, stepO_ret, look_d, look_loc, look_locs, negR_int, noneR_none, pick_tt, pick_tf, pick_ft, pick_ff, pickO_t, pickO_f, pickB_t, t_bool, b_add, b_sub, c_lt, c_eqI, c_eqS, c_neS, List.getElem?_cons_zero, List.getElem?_cons_succ, List.set_cons_zero, List.set_cons_succ, Bool.not_true, Bool.not_false, decide_true, decide_false, b_mod _ _ p2, decide_eq_true h, dispT_two, finR_ret, exit_d, toD]
  · obtain ⟨t, h1, h2⟩ := call_term ws hw 1 (d + 3) (c / 2) σ (by omega)
    have h2 : callF prog (d + 3) i_law_term [.d (.int (c / 2)), .d (.list (ws.map .str)), .d (.int 1)] σ = .ok (.d (toD t)) σ := h2
    refine ⟨t, h1, ?_⟩
    simp only [rb_ok, lift_some, o_map, eE_none, eE_bool, eE_int, eE_str, eE_var, eE_glob, eE_bin, eE_neg, eE_not, eE_bop, eB_one, eB_more, eE_cmp, eE_cmp2, eE_ite, eE_tup, eE_list, eE_dict0, eE_dict1, eE_idx, eE_slc, eE_call, eE_bi, eE_meth, eE_freeze, eL_nil, eL_cons, eO_no, eO_yes, eI_seq, eI_range, x_expr, x_asg, x_ite, x_ret, x_pass, x_put, x_for, xs_nil, xs_cons, stepO_next, stepO_ret, look_d, look_loc, look_locs, negR_int, noneR_none, pick_tt, pick_tf, pick_ft, pick_ff, pickO_t, pickO_f, pickB_t, t_bool, b_add, b_sub, c_lt, c_eqI, c_eqS, c_neS, List.getElem?_cons_zero, List.getElem?_cons_succ, List.set_cons_zero, List.set_cons_succ, Bool.not_true, Bool.not_false, decide_true, decide_false, b_mod _ _ p2, decide_eq_false h, b_fdiv _ _ q2, h2, finR_ret, exit_d]

/-! call -/
theorem q7 : (0 : Int) < 7 ∧ (7 : Int) < 9223372036854775808 := by decide
theorem q49 : (0 : Int) < 49 ∧ (49 : Int) < 9223372036854775808 := by decide
theorem map_toD (g : Nat → Tm) (n : Nat) : (List.range n).map (fun k => toD (g k)) = ((List.range n).map g).map toD := by rw [List.map_map]; rfl
theorem call_call {ws : List Str} (hw : 0 < ws.length) {fs : List Fd} (hf : 0 < fs.length) (hok : ∀ f ∈ fs, okF ws f) (c : Int) (d : Nat) (σ : Store) : ∃ r, (okR ws r ∧ hR r = 0 ∧ nR r = 1) ∧ callF prog (d + 6) i_law_call [.d (.int c), .d (.list (ws.map .str)), .d (.list (fs.map toF))] σ = .ok (.d (toR r)) σ := by
  have hfl : 0 < (((fs.map toF).length : Nat) : Int) := by simp; omega
  obtain ⟨hd, hm, ih⟩ := idx_at (l := fs.map toF) (i := c / 7 % ((fs.map toF).length : Int)) (emod_range _ hfl).1 (emod_range _ hfl).2 σ
  obtain ⟨f, hf1, rfl⟩ := List.mem_map.mp hm
  have of := hok f hf1
  have hwl : 0 < (((ws.map PyData.str).length : Nat) : Int) := by simp; omega
  obtain ⟨w, hwm, iw⟩ := word_at (ws := ws) (i := c / 49 % ((ws.map PyData.str).length : Int)) (emod_range _ hwl).1 (by have := (emod_range (c / 49) hwl).2; simpa using this) σ
  have hsk : ∀ k : Nat, k < f.ps.length → ∃ t, T1 ws 1 t ∧ callF prog (d + 5) i_law_given [.d (.int (mixV c (10 + k))), .d (.list (ws.map .str)), .d (.str ((f.ps[k]?).getD s_name))] (σ ++ [.busy]) = .ok (.d (toD t)) (σ ++ [.busy]) := fun k hk =>
    call_given hw (x := (f.ps[k]?).getD s_name) (of.1 _ (by rw [List.getElem?_eq_getElem hk]; exact List.getElem_mem _)) _ (d + 1) _
  obtain ⟨g, hg⟩ := skol (.num 0) hsk
  have comp := comp_range (callF prog (d + 5)) (i := 6) (eb := .bi .len false (.cons (.idx (.var 3) (.int 1)) (.nil))) (e := .call i_law_given (.cons (.call i_law_mixed (.cons (.var 0) (.cons (.bin .add false (.int 10) (.var 6)) (.nil)))) (.cons (.var 1) (.cons (.idx (.idx (.var 3) (.int 1)) (.var 6)) (.nil)))))
    (ρ := [.d (.int c), .d (.list (ws.map .str)), .d (.list (fs.map toF)), .d (toF f), .un, .un, .un]) (σ := σ) (b := ((f.ps.map PyData.str).length : Int)) (fun k => toD (g k))
    (by simp only [rb_ok, lift_some, o_map, eE_none, eE_bool, eE_int, eE_str, eE_var, eE_glob, eE_bin, eE_neg, eE_not, eE_bop, eB_one, eB_more, eE_cmp, eE_cmp2, eE_ite, eE_tup, eE_list, eE_dict0, eE_dict1, eE_idx, eE_slc, eE_call, eE_bi, eE_meth, eE_freeze, eL_nil, eL_cons, eO_no, eO_yes, eI_seq, eI_range, x_expr, x_asg, x_ite, x_ret, x_pass, x_put, x_for, xs_nil, xs_cons, stepO_next, stepO_ret, look_d, look_loc, look_locs, negR_int, noneR_none, pick_tt, pick_tf, pick_ft, pick_ff, pickO_t, pickO_f, pickB_t, t_bool, b_add, b_sub, c_lt, c_eqI, c_eqS, c_neS, List.getElem?_cons_zero, List.getElem?_cons_succ, List.set_cons_zero, List.set_cons_succ, Bool.not_true, Bool.not_false, decide_true, decide_false, tf_1, len_tup]) (by simp only [List.length_map]; have := of.2.1; omega) (fun k hk => by
      have hk' : k < f.ps.length := by simp only [List.length_map] at hk; omega
      have mx := call_mixed (d + 4) c (10 + k) (σ ++ [.busy])
      have ix : idxV (.d (.tuple (f.ps.map .str))) (.d (.int k)) (σ ++ [.busy]) = some (.d (.str ((f.ps[k]?).getD s_name))) := by
        rw [idx_tupN, List.getElem?_map, List.getElem?_eq_getElem hk']; rfl
      simp only [rb_ok, lift_some, o_map, eE_none, eE_bool, eE_int, eE_str, eE_var, eE_glob, eE_bin, eE_neg, eE_not, eE_bop, eB_one, eB_more, eE_cmp, eE_cmp2, eE_ite, eE_tup, eE_list, eE_dict0, eE_dict1, eE_idx, eE_slc, eE_call, eE_bi, eE_meth, eE_freeze, eL_nil, eL_cons, eO_no, eO_yes, eI_seq, eI_range, x_expr, x_asg, x_ite, x_ret, x_pass, x_put, x_for, xs_nil, xs_cons, stepO_next, stepO_ret, look_d, look_loc, look_locs, negR_int, noneR_none, pick_tt, pick_tf, pick_ft, pick_ff, pickO_t, pickO_f, pickB_t, t_bool, b_add, b_sub, c_lt, c_eqI, c_eqS, c_neS, List.getElem?_cons_zero, List.getElem?_cons_succ, List.set_cons_zero, List.set_cons_succ, Bool.not_true, Bool.not_false, decide_true, decide_false, mx, tf_1, ix, (hg k hk').2])
  rw [callF_is (fn := f_law_call) rfl (d + 5) _ _ rfl]
  show ∃ r, _ ∧ (execs prog.G (callF prog (d + 5)) b_law_call [.d (.int c), .d (.list (ws.map .str)), .d (.list (fs.map toF)), .un, .un, .un, .un] σ).bind (finR σ.length) = _
  rw [map_toD] at comp
  have hts : (List.range (((f.ps.map PyData.str).length : Int)).toNat).map g = (List.range f.ps.length).map g := by simp
  rw [hts] at comp
  have okts : (∀ t ∈ (List.range f.ps.length).map g, okN ws t) ∧ ((List.range f.ps.length).map g).length ≤ 4 := by
    refine ⟨fun t ht => ?_, by simp only [List.length_map, List.length_range]; exact of.2.1⟩
    obtain ⟨k, hk, rfl⟩ := List.mem_map.mp ht
    exact okN_of (by decide) (hg k (List.mem_range.mp hk)).1
  generalize (List.range f.ps.length).map g = ts at comp okts
  unfold b_law_call
  by_cases h3 : c % 3 = 0
  · refine ⟨.call none (.str f.nm) ts, ⟨⟨(fun x hx => by cases hx), okts⟩, rfl, rfl⟩, ?_⟩
    simp only [rb_ok, lift_some, o_map, eE_none, eE_bool, eE_int, eE_str, eE_var, eE_glob, eE_bin, eE_neg, eE_not, eE_bop, eB_one, eB_more, eE_cmp, eE_cmp2, eE_ite, eE_tup, eE_list, eE_dict0, eE_dict1, eE_idx, eE_slc, eE_call, eE_bi, eE_meth, eE_freeze, eL_nil, eL_cons, eO_no, eO_yes, eI_seq, eI_range, x_expr, x_asg, x_ite, x_ret, x_pass, x_put, x_for, xs_nil, xs_cons, stepO_next, stepO_ret, look_d, look_loc, look_locs, negR_int, noneR_none, pick_tt, pick_tf, pick_ft, pick_ff, pickO_t, pickO_f, pickB_t, t_bool, b_add, b_sub, c_lt, c_eqI, c_eqS, c_neS, List.getElem?_cons_zero, List.getElem?_cons_succ, List.set_cons_zero, List.set_cons_succ, Bool.not_true, Bool.not_false, decide_true, decide_false, b_fdiv _ _ q7, len_list, b_mod _ _ hfl, ih, comp, b_fdiv _ _ q49, b_mod _ _ hwl, iw, b_mod _ _ p3, decide_eq_true h3, tf_0, tup_list, dispT_four, finR_ret, exit_d, toR, optS]
  · refine ⟨.call (some w) (.str f.nm) ts, ⟨⟨(fun x hx => by cases hx; exact hwm), okts⟩, rfl, rfl⟩, ?_⟩
    simp only [rb_ok, lift_some, o_map, eE_none, eE_bool, eE_int, eE_str, eE_var, eE_glob, eE_bin, eE_neg, eE_not, eE_bop, eB_one, eB_more, eE_cmp, eE_cmp2, eE_ite, eE_tup, eE_list, eE_dict0, eE_dict1, eE_idx, eE_slc, eE_call, eE_bi, eE_meth, eE_freeze, eL_nil, eL_cons, eO_no, eO_yes, eI_seq, eI_range, x_expr, x_asg, x_ite, x_ret, x_pass, x_put, x_for, xs_nil, xs_cons, stepO_next, stepO_ret, look_d, look_loc, look_locs, negR_int, noneR_none, pick_tt, pick_tf, pick_ft, pick_ff, pickO_t, pickO_f, pickB_t, t_bool, b_add, b_sub, c_lt, c_eqI, c_eqS, c_neS, List.getElem?_cons_zero, List.getElem?_cons_succ, List.set_cons_zero, List.set_cons_succ, Bool.not_true, Bool.not_false, decide_true, decide_false, b_fdiv _ _ q7, len_list, b_mod _ _ hfl, ih, comp, b_fdiv _ _ q49, b_mod _ _ hwl, iw, b_mod _ _ p3, decide_eq_false h3, tf_0, tup_list, dispT_four, finR_ret, exit_d, toR, optS]
end Mine.L03

set_option autoImplicit false
set_option linter.unusedVariables false
set_option linter.unusedSimpArgs false
namespace Mine.L03
open PySem Mine

noncomputable def KK : Nat → Nat
  | 0 => 1
  | n + 1 => 1 + 3 * KK n
theorem KK_pos : ∀ n, 1 ≤ KK n
  | 0 => Nat.le_refl _
  | n + 1 => Nat.le_add_right ..
noncomputable def RowOk (ws : List Str) (deep : Nat) : Prop := ∀ (fs : List Fd) (c : Int) (d : Nat) (σ : Store), (∀ f ∈ fs, okF ws f) → 2 * deep + 8 ≤ d → ∃ r, (okR ws r ∧ hR r ≤ deep ∧ nR r ≤ KK deep) ∧
  callF prog d i_law_row [.d (.int c), .d (.list (ws.map .str)), .d (.list (fs.map toF)), .d (.int (deep : Int))] σ = .ok (.d (toR r)) σ
noncomputable def RowsOk (ws : List Str) (deep : Nat) : Prop := ∀ (fs : List Fd) (c many : Int) (d : Nat) (σ : Store), (∀ f ∈ fs, okF ws f) → 0 ≤ many ∧ many ≤ 30 → 2 * deep + 9 ≤ d → ∃ rs, (okL ws rs ∧ hL rs ≤ deep ∧ nL rs ≤ many.toNat * KK deep) ∧
  callF prog d i_law_rows [.d (.int c), .d (.list (ws.map .str)), .d (.list (fs.map toF)), .d (.int (deep : Int)), .d (.int many)] σ = .ok (.d (.tuple (toRL rs))) σ

theorem map_toR (g : Nat → Rw) (n : Nat) : (List.range n).map (fun k => toR (g k)) = ((List.range n).map g).map toR := by rw [List.map_map]; rfl
theorem rows_of_row {ws : List Str} {deep : Nat} (H : RowOk ws deep) : RowsOk ws deep := by
  intro fs c many d σ hok hm hd
  obtain ⟨d, rfl⟩ : ∃ e, d = e + 1 := ⟨d - 1, by omega⟩
  obtain ⟨d, rfl⟩ : ∃ e, d = e + 1 := ⟨d - 1, by omega⟩
  have hsk : ∀ k : Nat, True → ∃ r, (okR ws r ∧ hR r ≤ deep ∧ nR r ≤ KK deep) ∧ callF prog (d + 1) i_law_row [.d (.int (mixV c (20 + k))), .d (.list (ws.map .str)), .d (.list (fs.map toF)), .d (.int (deep : Int))] (σ ++ [.busy]) = .ok (.d (toR r)) (σ ++ [.busy]) := fun k _ =>
    H fs _ (d + 1) _ hok (by omega)
  obtain ⟨g, hg⟩ := skol (.tell (.num 0)) hsk
  have comp := comp_range (callF prog (d + 1)) (i := 5) (eb := .var 4) (e := .call i_law_row (.cons (.call i_law_mixed (.cons (.var 0) (.cons (.bin .add false (.int 20) (.var 5)) (.nil)))) (.cons (.var 1) (.cons (.var 2) (.cons (.var 3) (.nil))))))
    (ρ := [.d (.int c), .d (.list (ws.map .str)), .d (.list (fs.map toF)), .d (.int (deep : Int)), .d (.int many), .un]) (σ := σ) (b := many) (fun k => toR (g k)) rfl (by omega) (fun k hk => by
      have mx := call_mixed d c (20 + k) (σ ++ [.busy])
      simp only [rb_ok, lift_some, o_map, eE_none, eE_bool, eE_int, eE_str, eE_var, eE_glob, eE_bin, eE_neg, eE_not, eE_bop, eB_one, eB_more, eE_cmp, eE_cmp2, eE_ite, eE_tup, eE_list, eE_dict0, eE_dict1, eE_idx, eE_slc, eE_call, eE_bi, eE_meth, eE_freeze, eL_nil, eL_cons, eO_no, eO_yes, eI_seq, eI_range, x_expr, x_asg, x_ite, x_ret, x_pass, x_put, x_for, xs_nil, xs_cons, stepO_next, stepO_ret, look_d, look_loc, look_locs, negR_int, noneR_none, pick_tt, pick_tf, pick_ft, pick_ff, pickO_t, pickO_f, pickB_t, t_bool, b_add, b_sub, c_lt, c_eqI, c_eqS, c_neS, List.getElem?_cons_zero, List.getElem?_cons_succ, List.set_cons_zero, List.set_cons_succ, Bool.not_true, Bool.not_false, decide_true, decide_false, mx, (hg k trivial).2])
  rw [map_toR] at comp
  refine ⟨mkRL ((List.range many.toNat).map g), ⟨okL_mk _ fun r hr => ?_, hL_mk _ fun r hr => ?_, ?_⟩, ?_⟩
  · obtain ⟨k, _, rfl⟩ := List.mem_map.mp hr; exact (hg k trivial).1.1
  · obtain ⟨k, _, rfl⟩ := List.mem_map.mp hr; exact (hg k trivial).1.2.1
  · have := nL_mk (n := KK deep) ((List.range many.toNat).map g) fun r hr => by
      obtain ⟨k, _, rfl⟩ := List.mem_map.mp hr; exact (hg k trivial).1.2.2
    simpa using this
  · rw [callF_is (fn := f_law_rows) rfl (d + 1) _ _ rfl]
    show (execs prog.G (callF prog (d + 1)) b_law_rows [.d (.int c), .d (.list (ws.map .str)), .d (.list (fs.map toF)), .d (.int (deep : Int)), .d (.int many), .un] σ).bind (finR σ.length) = _
    unfold b_law_rows
    simp only [rb_ok, lift_some, o_map, eE_none, eE_bool, eE_int, eE_str, eE_var, eE_glob, eE_bin, eE_neg, eE_not, eE_bop, eB_one, eB_more, eE_cmp, eE_cmp2, eE_ite, eE_tup, eE_list, eE_dict0, eE_dict1, eE_idx, eE_slc, eE_call, eE_bi, eE_meth, eE_freeze, eL_nil, eL_cons, eO_no, eO_yes, eI_seq, eI_range, x_expr, x_asg, x_ite, x_ret, x_pass, x_put, x_for, xs_nil, xs_cons, stepO_next, stepO_ret, look_d, look_loc, look_locs, negR_int, noneR_none, pick_tt, pick_tf, pick_ft, pick_ff, pickO_t, pickO_f, pickB_t, t_bool, b_add, b_sub, c_lt, c_eqI, c_eqS, c_neS, List.getElem?_cons_zero, List.getElem?_cons_succ, List.set_cons_zero, List.set_cons_succ, Bool.not_true, Bool.not_false, decide_true, decide_false, comp, tup_list, finR_ret, exit_d, toRL_mk]

theorem p9 : (0 : Int) < 9 := by decide
theorem p4 : (0 : Int) < 4 := by decide
theorem p10 : (0 : Int) < 10 := by decide
theorem p5 : (0 : Int) < 5 := by decide
theorem q9 : (0 : Int) < 9 ∧ (9 : Int) < 9223372036854775808 := by decide
theorem q27 : (0 : Int) < 27 ∧ (27 : Int) < 9223372036854775808 := by decide
theorem q135 : (0 : Int) < 135 ∧ (135 : Int) < 9223372036854775808 := by decide
theorem q3645 : (0 : Int) < 3645 ∧ (3645 : Int) < 9223372036854775808 := by decide
theorem dispL_ints (l : List Int) (σ : Store) : dispL false (l.map fun i => V.d (.int i)) σ = .ok (.d (.list (l.map .int))) σ := by
  have : ∀ l : List Int, (l.map fun i => V.d (.int i)).mapM pureD = some (l.map .int) := by
    intro l
    induction l with
    | nil => rfl
    | cons a l ih => rw [List.map_cons, List.mapM_cons, ih]; rfl
  unfold dispL
  rw [this]; rfl
theorem idx_ints (l : List Int) {i : Int} (h0 : 0 ≤ i) (h : i < l.length) (σ : Store) : ∃ n, n ∈ l ∧ idxV (.d (.list (l.map .int))) (.d (.int i)) σ = some (.d (.int n)) := by
  obtain ⟨x, hx, e⟩ := idx_at (l := l.map .int) h0 (by simpa using h) σ
  obtain ⟨n, hn, rfl⟩ := List.mem_map.mp hx
  exact ⟨n, hn, e⟩

section
variable (cf : Nat → List V → Store → Res V) (k D : Int) (v0 v1 v5 v6 v7 v8 v9 : V) (l : List PyData) (σ : Store)
theorem cnd1 : evalE prog.G cf (.bop false (.cons (.cmp .eq (.var 4) (.int 2)) (.cons (.cmp .eq (.var 4) (.int 8)) (.nil)))) [v0, v1, .d (.list l), .d (.int D), .d (.int k), v5, v6, v7, v8, v9] σ = .ok (.d (.bool (decide (k = 2) || decide (k = 8)))) σ :=
  or2 (by simp only [rb_ok, lift_some, o_map, eE_none, eE_bool, eE_int, eE_str, eE_var, eE_glob, eE_bin, eE_neg, eE_not, eE_bop, eB_one, eB_more, eE_cmp, eE_cmp2, eE_ite, eE_tup, eE_list, eE_dict0, eE_dict1, eE_idx, eE_slc, eE_call, eE_bi, eE_meth, eE_freeze, eL_nil, eL_cons, eO_no, eO_yes, eI_seq, eI_range, x_expr, x_asg, x_ite, x_ret, x_pass, x_put, x_for, xs_nil, xs_cons, stepO_next, stepO_ret, look_d, look_loc, look_locs, negR_int, noneR_none, pick_tt, pick_tf, pick_ft, pick_ff, pickO_t, pickO_f, pickB_t, t_bool, b_add, b_sub, c_lt, c_eqI, c_eqS, c_neS, List.getElem?_cons_zero, List.getElem?_cons_succ, List.set_cons_zero, List.set_cons_succ, Bool.not_true, Bool.not_false, decide_true, decide_false]) (by simp only [rb_ok, lift_some, o_map, eE_none, eE_bool, eE_int, eE_str, eE_var, eE_glob, eE_bin, eE_neg, eE_not, eE_bop, eB_one, eB_more, eE_cmp, eE_cmp2, eE_ite, eE_tup, eE_list, eE_dict0, eE_dict1, eE_idx, eE_slc, eE_call, eE_bi, eE_meth, eE_freeze, eL_nil, eL_cons, eO_no, eO_yes, eI_seq, eI_range, x_expr, x_asg, x_ite, x_ret, x_pass, x_put, x_for, xs_nil, xs_cons, stepO_next, stepO_ret, look_d, look_loc, look_locs, negR_int, noneR_none, pick_tt, pick_tf, pick_ft, pick_ff, pickO_t, pickO_f, pickB_t, t_bool, b_add, b_sub, c_lt, c_eqI, c_eqS, c_neS, List.getElem?_cons_zero, List.getElem?_cons_succ, List.set_cons_zero, List.set_cons_succ, Bool.not_true, Bool.not_false, decide_true, decide_false])
theorem cnd2 : evalE prog.G cf (.bop true (.cons (.cmp .lt (.int 2) (.var 4)) (.cons (.cmp .lt (.var 4) (.int 6)) (.cons (.cmp .ne (.var 2) (.list false (.nil))) (.nil))))) [v0, v1, .d (.list l), .d (.int D), .d (.int k), v5, v6, v7, v8, v9] σ = .ok (.d (.bool (decide (2 < k) && (decide (k < 6) && !l.isEmpty)))) σ :=
  and3 (by simp only [rb_ok, lift_some, o_map, eE_none, eE_bool, eE_int, eE_str, eE_var, eE_glob, eE_bin, eE_neg, eE_not, eE_bop, eB_one, eB_more, eE_cmp, eE_cmp2, eE_ite, eE_tup, eE_list, eE_dict0, eE_dict1, eE_idx, eE_slc, eE_call, eE_bi, eE_meth, eE_freeze, eL_nil, eL_cons, eO_no, eO_yes, eI_seq, eI_range, x_expr, x_asg, x_ite, x_ret, x_pass, x_put, x_for, xs_nil, xs_cons, stepO_next, stepO_ret, look_d, look_loc, look_locs, negR_int, noneR_none, pick_tt, pick_tf, pick_ft, pick_ff, pickO_t, pickO_f, pickB_t, t_bool, b_add, b_sub, c_lt, c_eqI, c_eqS, c_neS, List.getElem?_cons_zero, List.getElem?_cons_succ, List.set_cons_zero, List.set_cons_succ, Bool.not_true, Bool.not_false, decide_true, decide_false]) (by simp only [rb_ok, lift_some, o_map, eE_none, eE_bool, eE_int, eE_str, eE_var, eE_glob, eE_bin, eE_neg, eE_not, eE_bop, eB_one, eB_more, eE_cmp, eE_cmp2, eE_ite, eE_tup, eE_list, eE_dict0, eE_dict1, eE_idx, eE_slc, eE_call, eE_bi, eE_meth, eE_freeze, eL_nil, eL_cons, eO_no, eO_yes, eI_seq, eI_range, x_expr, x_asg, x_ite, x_ret, x_pass, x_put, x_for, xs_nil, xs_cons, stepO_next, stepO_ret, look_d, look_loc, look_locs, negR_int, noneR_none, pick_tt, pick_tf, pick_ft, pick_ff, pickO_t, pickO_f, pickB_t, t_bool, b_add, b_sub, c_lt, c_eqI, c_eqS, c_neS, List.getElem?_cons_zero, List.getElem?_cons_succ, List.set_cons_zero, List.set_cons_succ, Bool.not_true, Bool.not_false, decide_true, decide_false]) (by simp only [rb_ok, lift_some, o_map, eE_none, eE_bool, eE_int, eE_str, eE_var, eE_glob, eE_bin, eE_neg, eE_not, eE_bop, eB_one, eB_more, eE_cmp, eE_cmp2, eE_ite, eE_tup, eE_list, eE_dict0, eE_dict1, eE_idx, eE_slc, eE_call, eE_bi, eE_meth, eE_freeze, eL_nil, eL_cons, eO_no, eO_yes, eI_seq, eI_range, x_expr, x_asg, x_ite, x_ret, x_pass, x_put, x_for, xs_nil, xs_cons, stepO_next, stepO_ret, look_d, look_loc, look_locs, negR_int, noneR_none, pick_tt, pick_tf, pick_ft, pick_ff, pickO_t, pickO_f, pickB_t, t_bool, b_add, b_sub, c_lt, c_eqI, c_eqS, c_neS, List.getElem?_cons_zero, List.getElem?_cons_succ, List.set_cons_zero, List.set_cons_succ, Bool.not_true, Bool.not_false, decide_true, decide_false, dispL_nil, mkL_f, c_ne, eq_nilL])
theorem cnd3 (n : Int) : evalE prog.G cf (.bop true (.cons (.cmp .eq (.var 4) (.int n)) (.cons (.cmp .gt (.var 3) (.int 0)) (.nil)))) [v0, v1, .d (.list l), .d (.int D), .d (.int k), v5, v6, v7, v8, v9] σ = .ok (.d (.bool (decide (k = n) && decide (D > 0)))) σ :=
  and2 (by simp only [rb_ok, lift_some, o_map, eE_none, eE_bool, eE_int, eE_str, eE_var, eE_glob, eE_bin, eE_neg, eE_not, eE_bop, eB_one, eB_more, eE_cmp, eE_cmp2, eE_ite, eE_tup, eE_list, eE_dict0, eE_dict1, eE_idx, eE_slc, eE_call, eE_bi, eE_meth, eE_freeze, eL_nil, eL_cons, eO_no, eO_yes, eI_seq, eI_range, x_expr, x_asg, x_ite, x_ret, x_pass, x_put, x_for, xs_nil, xs_cons, stepO_next, stepO_ret, look_d, look_loc, look_locs, negR_int, noneR_none, pick_tt, pick_tf, pick_ft, pick_ff, pickO_t, pickO_f, pickB_t, t_bool, b_add, b_sub, c_lt, c_eqI, c_eqS, c_neS, List.getElem?_cons_zero, List.getElem?_cons_succ, List.set_cons_zero, List.set_cons_succ, Bool.not_true, Bool.not_false, decide_true, decide_false]) (by simp only [rb_ok, lift_some, o_map, eE_none, eE_bool, eE_int, eE_str, eE_var, eE_glob, eE_bin, eE_neg, eE_not, eE_bop, eB_one, eB_more, eE_cmp, eE_cmp2, eE_ite, eE_tup, eE_list, eE_dict0, eE_dict1, eE_idx, eE_slc, eE_call, eE_bi, eE_meth, eE_freeze, eL_nil, eL_cons, eO_no, eO_yes, eI_seq, eI_range, x_expr, x_asg, x_ite, x_ret, x_pass, x_put, x_for, xs_nil, xs_cons, stepO_next, stepO_ret, look_d, look_loc, look_locs, negR_int, noneR_none, pick_tt, pick_tf, pick_ft, pick_ff, pickO_t, pickO_f, pickB_t, t_bool, b_add, b_sub, c_lt, c_eqI, c_eqS, c_neS, List.getElem?_cons_zero, List.getElem?_cons_succ, List.set_cons_zero, List.set_cons_succ, Bool.not_true, Bool.not_false, decide_true, decide_false, c_gt])
theorem cnd5 : evalE prog.G cf (.bop true (.cons (.cmp .eq (.var 2) (.list false (.nil))) (.cons (.cmp .eq (.var 3) (.int 2)) (.nil)))) [v0, v1, .d (.list l), .d (.int D), .d (.int k), v5, v6, v7, v8, v9] σ = .ok (.d (.bool (l.isEmpty && decide (D = 2)))) σ :=
  and2 (by simp only [rb_ok, lift_some, o_map, eE_none, eE_bool, eE_int, eE_str, eE_var, eE_glob, eE_bin, eE_neg, eE_not, eE_bop, eB_one, eB_more, eE_cmp, eE_cmp2, eE_ite, eE_tup, eE_list, eE_dict0, eE_dict1, eE_idx, eE_slc, eE_call, eE_bi, eE_meth, eE_freeze, eL_nil, eL_cons, eO_no, eO_yes, eI_seq, eI_range, x_expr, x_asg, x_ite, x_ret, x_pass, x_put, x_for, xs_nil, xs_cons, stepO_next, stepO_ret, look_d, look_loc, look_locs, negR_int, noneR_none, pick_tt, pick_tf, pick_ft, pick_ff, pickO_t, pickO_f, pickB_t, t_bool, b_add, b_sub, c_lt, c_eqI, c_eqS, c_neS, List.getElem?_cons_zero, List.getElem?_cons_succ, List.set_cons_zero, List.set_cons_succ, Bool.not_true, Bool.not_false, decide_true, decide_false, dispL_nil, mkL_f, c_eq, eq_nilL]) (by simp only [rb_ok, lift_some, o_map, eE_none, eE_bool, eE_int, eE_str, eE_var, eE_glob, eE_bin, eE_neg, eE_not, eE_bop, eB_one, eB_more, eE_cmp, eE_cmp2, eE_ite, eE_tup, eE_list, eE_dict0, eE_dict1, eE_idx, eE_slc, eE_call, eE_bi, eE_meth, eE_freeze, eL_nil, eL_cons, eO_no, eO_yes, eI_seq, eI_range, x_expr, x_asg, x_ite, x_ret, x_pass, x_put, x_for, xs_nil, xs_cons, stepO_next, stepO_ret, look_d, look_loc, look_locs, negR_int, noneR_none, pick_tt, pick_tf, pick_ft, pick_ff, pickO_t, pickO_f, pickB_t, t_bool, b_add, b_sub, c_lt, c_eqI, c_eqS, c_neS, List.getElem?_cons_zero, List.getElem?_cons_succ, List.set_cons_zero, List.set_cons_succ, Bool.not_true, Bool.not_false, decide_true, decide_false])
end

noncomputable def rowTail : SL :=
  .cons (.ite (.bop false (.cons (.cmp .eq (.var 4) (.int 2)) (.cons (.cmp .eq (.var 4) (.int 8)) (.nil))))
    (.cons (.ret (.tup (.cons (.str s_tell) (.cons (.call i_law_term (.cons (.var 5) (.cons (.var 1) (.cons (.int 2) (.nil))))) (.nil))))) (
    .nil))
    (.nil)) (
  .cons (.ite (.bop true (.cons (.cmp .lt (.int 2) (.var 4)) (.cons (.cmp .lt (.var 4) (.int 6)) (.cons (.cmp .ne (.var 2) (.list false (.nil))) (.nil)))))
    (.cons (.ret (.call i_law_call (.cons (.var 5) (.cons (.var 1) (.cons (.var 2) (.nil)))))) (
    .nil))
    (.nil)) (
  .cons (.ite (.bop true (.cons (.cmp .eq (.var 4) (.int 6)) (.cons (.cmp .gt (.var 3) (.int 0)) (.nil))))
    (.cons (.asg (.var 8) (.call i_law_rows (.cons (.var 5) (.cons (.var 1) (.cons (.var 7) (.cons (.bin .sub false (.var 3) (.int 1)) (.cons (.bin .add false (.int 1) (.bin .mod false (.bin .fdiv false (.var 0) (.int 9)) (.int 3))) (.nil)))))))) (
    .cons (.ret (.tup (.cons (.str s_when) (.cons (.call i_law_term (.cons (.call i_law_mixed (.cons (.var 0) (.cons (.int 4) (.nil)))) (.cons (.var 1) (.cons (.int 1) (.nil))))) (.cons (.var 8) (.nil)))))) (
    .nil)))
    (.nil)) (
  .cons (.ite (.bop true (.cons (.cmp .eq (.var 4) (.int 7)) (.cons (.cmp .gt (.var 3) (.int 0)) (.nil))))
    (.cons (.asg (.var 9) (.idx (.list false (.cons (.int 2) (.cons (.int 1) (.cons (.int 2) (.cons (.int 0) (.nil)))))) (.bin .mod false (.bin .fdiv false (.var 0) (.int 27)) (.int 4)))) (
    .cons (.ite (.bop true (.cons (.cmp .eq (.var 2) (.list false (.nil))) (.cons (.cmp .eq (.var 3) (.int 2)) (.nil))))
      (.cons (.asg (.var 9) (.idx (.list false (.cons (.int 2) (.cons (.int 3) (.cons (.int 1) (.cons (.bin .mod false (.bin .fdiv false (.var 0) (.int 135)) (.int 10)) (.cons (.int 0) (.nil))))))) (.bin .mod false (.bin .fdiv false (.var 0) (.int 27)) (.int 5)))) (
      .nil))
      (.nil)) (
    .cons (.ret (.tup (.cons (.str s_again) (.cons (.var 9) (.cons (.call i_law_rows (.cons (.var 5) (.cons (.var 1) (.cons (.var 7) (.cons (.bin .sub false (.var 3) (.int 1)) (.cons (.bin .add false (.int 1) (.bin .mod false (.bin .fdiv false (.var 0) (.int 9)) (.int 3))) (.nil))))))) (.nil)))))) (
    .nil))))
    (.nil)) (
  .cons (.ret (.tup (.cons (.str s_set) (.cons (.var 6) (.cons (.call i_law_term (.cons (.var 5) (.cons (.var 1) (.cons (.bin .add false (.int 1) (.bin .mod false (.var 4) (.int 2))) (.nil))))) (.nil)))))) (
  .nil)))))
theorem row_size {c : Int} {rs : RL} {e : Nat} (hm : 0 ≤ c / 9 % 3 ∧ c / 9 % 3 < 3) (h : nL rs ≤ (1 + c / 9 % 3).toNat * KK e) : nL rs + 1 ≤ 1 + 3 * KK e := by
  have : (1 + c / 9 % 3).toNat ≤ 3 := by omega
  have := Nat.mul_le_mul_right (KK e) this
  omega
theorem row_ok {ws : List Str} (hw : 0 < ws.length) {deep : Nat} (H : ∀ e, deep = e + 1 → RowsOk ws e) : RowOk ws deep := by
  intro fs c d σ hok hd
  obtain ⟨d, rfl⟩ : ∃ e, d = e + 1 := ⟨d - 1, by omega⟩
  have hwl : 0 < (((ws.map PyData.str).length : Nat) : Int) := by simp; omega
  obtain ⟨w, hwm, iw⟩ := word_at (ws := ws) (i := c / 9 % ((ws.map PyData.str).length : Int)) (emod_range _ hwl).1 (by have := (emod_range (c / 9) hwl).2; simpa using this) σ
  have mx3 : callF prog d i_law_mixed [.d (.int c), .d (.int 3)] σ = .ok (.d (.int (mixV c 3))) σ := by
    obtain ⟨d', rfl⟩ : ∃ e, d = e + 1 := ⟨d - 1, by omega⟩
    exact call_mixed d' c 3 σ
  have mx4 : callF prog d i_law_mixed [.d (.int c), .d (.int 4)] σ = .ok (.d (.int (mixV c 4))) σ := by
    obtain ⟨d', rfl⟩ : ∃ e, d = e + 1 := ⟨d - 1, by omega⟩
    exact call_mixed d' c 4 σ
  rw [callF_is (fn := f_law_row) rfl d _ _ rfl]
  show ∃ r, _ ∧ (execs prog.G (callF prog d) b_law_row [.d (.int c), .d (.list (ws.map .str)), .d (.list (fs.map toF)), .d (.int (deep : Int)), .un, .un, .un, .un, .un, .un] σ).bind (finR σ.length) = _
  generalize hfew : sliceL fs none (some (1 + if decide (c / 3645 % 8 = 1) then 1 else 0)) = few
  have fok : ∀ f ∈ few, okF ws f := fun f hf => hok f (slice_mem (hfew ▸ hf))
  have few' : sliceL (fs.map toF) none (some (1 + if decide (c / 3645 % 8 = 1) then 1 else 0)) = few.map toF := by rw [slice_map, hfew]
  have kp := KK_pos deep
  have pre : execs prog.G (callF prog d) b_law_row [.d (.int c), .d (.list (ws.map .str)), .d (.list (fs.map toF)), .d (.int (deep : Int)), .un, .un, .un, .un, .un, .un] σ = execs prog.G (callF prog d) rowTail [.d (.int c), .d (.list (ws.map .str)), .d (.list (fs.map toF)), .d (.int (deep : Int)), .d (.int (c % 9)), .d (.int (mixV c 3)), .d (.str w), .d (.list (few.map toF)), .un, .un] σ := by
    have s1 : exec prog.G (callF prog d) (.asg (.var 4) (.bin .mod false (.var 0) (.int 9))) [.d (.int c), .d (.list (ws.map .str)), .d (.list (fs.map toF)), .d (.int (deep : Int)), .un, .un, .un, .un, .un, .un] σ = .ok (.next [.d (.int c), .d (.list (ws.map .str)), .d (.list (fs.map toF)), .d (.int (deep : Int)), .d (.int (c % 9)), .un, .un, .un, .un, .un]) σ := by simp only [rb_ok, lift_some, o_map, eE_none, eE_bool, eE_int, eE_str, eE_var, eE_glob, eE_bin, eE_neg, eE_not, eE_bop, eB_one, eB_more, eE_cmp, eE_cmp2, eE_ite, eE_tup, eE_list, eE_dict0, eE_dict1, eE_idx, eE_slc, eE_call, eE_bi, eE_meth, eE_freeze, eL_nil, eL_cons, eO_no, eO_yes, eI_seq, eI_range, x_expr, x_asg, x_ite, x_ret, x_pass, x_put, x_for, xs_nil, xs_cons, stepO_next, stepO_ret, look_d, look_loc, look_locs, negR_int, noneR_none, pick_tt, pick_tf, pick_ft, pick_ff, pickO_t, pickO_f, pickB_t, t_bool, b_add, b_sub, c_lt, c_eqI, c_eqS, c_neS, List.getElem?_cons_zero, List.getElem?_cons_succ, List.set_cons_zero, List.set_cons_succ, Bool.not_true, Bool.not_false, decide_true, decide_false, b_mod _ _ p9]
    have s2 : exec prog.G (callF prog d) (.asg (.var 5) (.call i_law_mixed (.cons (.var 0) (.cons (.int 3) (.nil))))) [.d (.int c), .d (.list (ws.map .str)), .d (.list (fs.map toF)), .d (.int (deep : Int)), .d (.int (c % 9)), .un, .un, .un, .un, .un] σ = .ok (.next [.d (.int c), .d (.list (ws.map .str)), .d (.list (fs.map toF)), .d (.int (deep : Int)), .d (.int (c % 9)), .d (.int (mixV c 3)), .un, .un, .un, .un]) σ := by simp only [rb_ok, lift_some, o_map, eE_none, eE_bool, eE_int, eE_str, eE_var, eE_glob, eE_bin, eE_neg, eE_not, eE_bop, eB_one, eB_more, eE_cmp, eE_cmp2, eE_ite, eE_tup, eE_list, eE_dict0, eE_dict1, eE_idx, eE_slc, eE_call, eE_bi, eE_meth, eE_freeze, eL_nil, eL_cons, eO_no, eO_yes, eI_seq, eI_range, x_expr, x_asg, x_ite, x_ret, x_pass, x_put, x_for, xs_nil, xs_cons, stepO_next, stepO_ret, look_d, look_loc, look_locs, negR_int, noneR_none, pick_tt, pick_tf, pick_ft, pick_ff, pickO_t, pickO_f, pickB_t, t_bool, b_add, b_sub, c_lt, c_eqI, c_eqS, c_neS, List.getElem?_cons_zero, List.getElem?_cons_succ, List.set_cons_zero, List.set_cons_succ, Bool.not_true, Bool.not_false, decide_true, decide_false, mx3]
    have s3 : exec prog.G (callF prog d) (.asg (.var 6) (.idx (.var 1) (.bin .mod false (.bin .fdiv false (.var 0) (.int 9)) (.bi .len false (.cons (.var 1) (.nil)))))) [.d (.int c), .d (.list (ws.map .str)), .d (.list (fs.map toF)), .d (.int (deep : Int)), .d (.int (c % 9)), .d (.int (mixV c 3)), .un, .un, .un, .un] σ = .ok (.next [.d (.int c), .d (.list (ws.map .str)), .d (.list (fs.map toF)), .d (.int (deep : Int)), .d (.int (c % 9)), .d (.int (mixV c 3)), .d (.str w), .un, .un, .un]) σ := by simp only [rb_ok, lift_some, o_map, eE_none, eE_bool, eE_int, eE_str, eE_var, eE_glob, eE_bin, eE_neg, eE_not, eE_bop, eB_one, eB_more, eE_cmp, eE_cmp2, eE_ite, eE_tup, eE_list, eE_dict0, eE_dict1, eE_idx, eE_slc, eE_call, eE_bi, eE_meth, eE_freeze, eL_nil, eL_cons, eO_no, eO_yes, eI_seq, eI_range, x_expr, x_asg, x_ite, x_ret, x_pass, x_put, x_for, xs_nil, xs_cons, stepO_next, stepO_ret, look_d, look_loc, look_locs, negR_int, noneR_none, pick_tt, pick_tf, pick_ft, pick_ff, pickO_t, pickO_f, pickB_t, t_bool, b_add, b_sub, c_lt, c_eqI, c_eqS, c_neS, List.getElem?_cons_zero, List.getElem?_cons_succ, List.set_cons_zero, List.set_cons_succ, Bool.not_true, Bool.not_false, decide_true, decide_false, b_fdiv _ _ q9, len_list, b_mod _ _ hwl, iw]
    have s4 : exec prog.G (callF prog d) (.asg (.var 7) (.slc false (.var 2) .no (.yes (.bin .add false (.int 1) (.bi .int false (.cons (.cmp .eq (.bin .mod false (.bin .fdiv false (.var 0) (.int 3645)) (.int 8)) (.int 1)) (.nil))))))) [.d (.int c), .d (.list (ws.map .str)), .d (.list (fs.map toF)), .d (.int (deep : Int)), .d (.int (c % 9)), .d (.int (mixV c 3)), .d (.str w), .un, .un, .un] σ = .ok (.next [.d (.int c), .d (.list (ws.map .str)), .d (.list (fs.map toF)), .d (.int (deep : Int)), .d (.int (c % 9)), .d (.int (mixV c 3)), .d (.str w), .d (.list (few.map toF)), .un, .un]) σ := by simp only [rb_ok, lift_some, o_map, eE_none, eE_bool, eE_int, eE_str, eE_var, eE_glob, eE_bin, eE_neg, eE_not, eE_bop, eB_one, eB_more, eE_cmp, eE_cmp2, eE_ite, eE_tup, eE_list, eE_dict0, eE_dict1, eE_idx, eE_slc, eE_call, eE_bi, eE_meth, eE_freeze, eL_nil, eL_cons, eO_no, eO_yes, eI_seq, eI_range, x_expr, x_asg, x_ite, x_ret, x_pass, x_put, x_for, xs_nil, xs_cons, stepO_next, stepO_ret, look_d, look_loc, look_locs, negR_int, noneR_none, pick_tt, pick_tf, pick_ft, pick_ff, pickO_t, pickO_f, pickB_t, t_bool, b_add, b_sub, c_lt, c_eqI, c_eqS, c_neS, List.getElem?_cons_zero, List.getElem?_cons_succ, List.set_cons_zero, List.set_cons_succ, Bool.not_true, Bool.not_false, decide_true, decide_false, b_fdiv _ _ q3645, b_mod _ _ p8, int_bool, slc_list _ _ oi_none (oi_int _), mkL_f, few']
    exact (seq_next s1).trans ((seq_next s2).trans ((seq_next s3).trans (seq_next s4)))
  have fin : ∀ {r : Rw} {x : PyData}, execs prog.G (callF prog d) rowTail [.d (.int c), .d (.list (ws.map .str)), .d (.list (fs.map toF)), .d (.int (deep : Int)), .d (.int (c % 9)), .d (.int (mixV c 3)), .d (.str w), .d (.list (few.map toF)), .un, .un] σ = .ok (.ret (.d x)) σ → x = toR r → (execs prog.G (callF prog d) b_law_row [.d (.int c), .d (.list (ws.map .str)), .d (.list (fs.map toF)), .d (.int (deep : Int)), .un, .un, .un, .un, .un, .un] σ).bind (finR σ.length) = .ok (.d (toR r)) σ := by
    intro r x h e
    rw [pre, h, rb_ok, finR_ret, exit_d, e]
  have k1 := cnd1 (callF prog d) (c % 9) (deep : Int) (.d (.int c)) (.d (.list (ws.map .str))) (.d (.int (mixV c 3))) (.d (.str w)) (.d (.list (few.map toF))) .un .un (fs.map toF) σ
  have k2 := cnd2 (callF prog d) (c % 9) (deep : Int) (.d (.int c)) (.d (.list (ws.map .str))) (.d (.int (mixV c 3))) (.d (.str w)) (.d (.list (few.map toF))) .un .un (fs.map toF) σ
  have k3 := cnd3 (callF prog d) (c % 9) (deep : Int) (.d (.int c)) (.d (.list (ws.map .str))) (.d (.int (mixV c 3))) (.d (.str w)) (.d (.list (few.map toF))) .un .un (fs.map toF) σ 6
  have k4 := cnd3 (callF prog d) (c % 9) (deep : Int) (.d (.int c)) (.d (.list (ws.map .str))) (.d (.int (mixV c 3))) (.d (.str w)) (.d (.list (few.map toF))) .un .un (fs.map toF) σ 7
  cases h1 : (decide (c % 9 = 2) || decide (c % 9 = 8)) with
  | true =>
    rw [h1] at k1
    obtain ⟨t, ht, et⟩ := call_term ws hw 2 d (mixV c 3) σ (by omega)
    have et : callF prog d i_law_term [.d (.int (mixV c 3)), .d (.list (ws.map .str)), .d (.int 2)] σ = .ok (.d (toD t)) σ := et
    refine ⟨.tell t, ⟨okN_of (by decide) ht, Nat.zero_le _, kp⟩, fin (x := .tuple [.str s_tell, toD t]) ?_ rfl⟩
    exact seq_ret ((ite_t k1).trans (by simp only [rb_ok, lift_some, o_map, eE_none, eE_bool, eE_int, eE_str, eE_var, eE_glob, eE_bin, eE_neg, eE_not, eE_bop, eB_one, eB_more, eE_cmp, eE_cmp2, eE_ite, eE_tup, eE_list, eE_dict0, eE_dict1, eE_idx, eE_slc, eE_call, eE_bi, eE_meth, eE_freeze, eL_nil, eL_cons, eO_no, eO_yes, eI_seq, eI_range, x_expr, x_asg, x_ite, x_ret, x_pass, x_put, x_for, xs_nil, xs_cons, stepO_next, stepO_ret, look_d, look_loc, look_locs, negR_int, noneR_none, pick_tt, pick_tf, pick_ft, pick_ff, pickO_t, pickO_f, pickB_t, t_bool, b_add, b_sub, c_lt, c_eqI, c_eqS, c_neS, List.getElem?_cons_zero, List.getElem?_cons_succ, List.set_cons_zero, List.set_cons_succ, Bool.not_true, Bool.not_false, decide_true, decide_false, et, dispT_two]))
  | false =>
    rw [h1] at k1
    have z1 := fun (a r : SL) => seq_next (r := r) ((ite_f (a := a) (b := .nil) k1).trans (xs_nil ..))
    cases h2 : (decide (2 < c % 9) && (decide (c % 9 < 6) && !(fs.map toF).isEmpty)) with
    | true =>
      rw [h2] at k2
      have hf : 0 < fs.length := by
        simp only [Bool.and_eq_true, Bool.not_eq_true'] at h2
        cases fs with
        | nil => simp at h2
        | cons _ _ => simp
      obtain ⟨d', rfl⟩ : ∃ e, d = e + 6 := ⟨d - 6, by omega⟩
      obtain ⟨r, ⟨h5, h6, h7⟩, er⟩ := call_call hw hf hok (mixV c 3) d' σ
      refine ⟨r, ⟨h5, by omega, by omega⟩, fin ?_ rfl⟩
      exact (z1 _ _).trans (seq_ret ((ite_t k2).trans (by simp only [rb_ok, lift_some, o_map, eE_none, eE_bool, eE_int, eE_str, eE_var, eE_glob, eE_bin, eE_neg, eE_not, eE_bop, eB_one, eB_more, eE_cmp, eE_cmp2, eE_ite, eE_tup, eE_list, eE_dict0, eE_dict1, eE_idx, eE_slc, eE_call, eE_bi, eE_meth, eE_freeze, eL_nil, eL_cons, eO_no, eO_yes, eI_seq, eI_range, x_expr, x_asg, x_ite, x_ret, x_pass, x_put, x_for, xs_nil, xs_cons, stepO_next, stepO_ret, look_d, look_loc, look_locs, negR_int, noneR_none, pick_tt, pick_tf, pick_ft, pick_ff, pickO_t, pickO_f, pickB_t, t_bool, b_add, b_sub, c_lt, c_eqI, c_eqS, c_neS, List.getElem?_cons_zero, List.getElem?_cons_succ, List.set_cons_zero, List.set_cons_succ, Bool.not_true, Bool.not_false, decide_true, decide_false, er])))
    | false =>
      rw [h2] at k2
      have z2 := fun (a r : SL) => seq_next (r := r) ((ite_f (a := a) (b := .nil) k2).trans (xs_nil ..))
      cases h3 : (decide (c % 9 = 6) && decide ((deep : Int) > 0)) with
      | true =>
        rw [h3] at k3
        simp only [Bool.and_eq_true, decide_eq_true_eq] at h3
        obtain ⟨e, rfl⟩ : ∃ e, deep = e + 1 := ⟨deep - 1, by omega⟩
        have de : ((e + 1 : Nat) : Int) - 1 = (e : Int) := by omega
        have hm := emod_range (c / 9) p3
        obtain ⟨rs, ⟨a1, a2, a3⟩, ers⟩ := H e rfl few (mixV c 3) (1 + c / 9 % 3) d σ fok (by omega) (by omega)
        obtain ⟨t, ht, et⟩ := call_term ws hw 1 d (mixV c 4) σ (by omega)
        have et : callF prog d i_law_term [.d (.int (mixV c 4)), .d (.list (ws.map .str)), .d (.int 1)] σ = .ok (.d (toD t)) σ := et
        refine ⟨.whn t rs, ⟨⟨okN_of (by decide) ht, a1⟩, Nat.succ_le_succ a2, row_size hm a3⟩, fin (x := .tuple [.str s_when, toD t, .tuple (toRL rs)]) ?_ rfl⟩
        refine (z1 _ _).trans ((z2 _ _).trans (seq_ret ((ite_t k3).trans ?_)))
        generalize ((e + 1 : Nat) : Int) = D at *
        simp only [rb_ok, lift_some, o_map, eE_none, eE_bool, eE_int, eE_str, eE_var, eE_glob, eE_bin, eE_neg, eE_not, eE_bop, eB_one, eB_more, eE_cmp, eE_cmp2, eE_ite, eE_tup, eE_list, eE_dict0, eE_dict1, eE_idx, eE_slc, eE_call, eE_bi, eE_meth, eE_freeze, eL_nil, eL_cons, eO_no, eO_yes, eI_seq, eI_range, x_expr, x_asg, x_ite, x_ret, x_pass, x_put, x_for, xs_nil, xs_cons, stepO_next, stepO_ret, look_d, look_loc, look_locs, negR_int, noneR_none, pick_tt, pick_tf, pick_ft, pick_ff, pickO_t, pickO_f, pickB_t, t_bool, b_add, b_sub, c_lt, c_eqI, c_eqS, c_neS, List.getElem?_cons_zero, List.getElem?_cons_succ, List.set_cons_zero, List.set_cons_succ, Bool.not_true, Bool.not_false, decide_true, decide_false, de, b_fdiv _ _ q9, b_mod _ _ p3, ers, mx4, et, dispT_three]
      | false =>
        rw [h3] at k3
        have z3 := fun (a r : SL) => seq_next (r := r) ((ite_f (a := a) (b := .nil) k3).trans (xs_nil ..))
        cases h4 : (decide (c % 9 = 7) && decide ((deep : Int) > 0)) with
        | true =>
          rw [h4] at k4
          simp only [Bool.and_eq_true, decide_eq_true_eq] at h4
          obtain ⟨e, rfl⟩ : ∃ e, deep = e + 1 := ⟨deep - 1, by omega⟩
          have de : ((e + 1 : Nat) : Int) - 1 = (e : Int) := by omega
          have hm := emod_range (c / 9) p3
          obtain ⟨rs, ⟨a1, a2, a3⟩, ers⟩ := H e rfl few (mixV c 3) (1 + c / 9 % 3) d σ fok (by omega) (by omega)
          obtain ⟨n4, _, i4⟩ := idx_ints [2, 1, 2, 0] (emod_range (c / 27) p4).1 (emod_range (c / 27) p4).2 σ
          obtain ⟨n5, _, i5⟩ := idx_ints [2, 3, 1, c / 135 % 10, 0] (emod_range (c / 27) p5).1 (emod_range (c / 27) p5).2 σ
          have d4 := dispL_ints [2, 1, 2, 0] σ
          have d5 := dispL_ints [2, 3, 1, c / 135 % 10, 0] σ
          simp only [List.map_cons, List.map_nil] at i4 i5 d4 d5
          have k5 := cnd5 (callF prog d) (c % 9) ((e + 1 : Nat) : Int) (.d (.int c)) (.d (.list (ws.map .str))) (.d (.int (mixV c 3))) (.d (.str w)) (.d (.list (few.map toF))) .un (.d (.int n4)) (fs.map toF) σ
          generalize hDD : ((e + 1 : Nat) : Int) = D at *
          cases h5 : ((fs.map toF).isEmpty && decide (D = 2)) with
          | true =>
            rw [h5] at k5
            refine ⟨.aga n5 rs, ⟨a1, Nat.succ_le_succ a2, row_size hm a3⟩, fin (x := .tuple [.str s_again, .int n5, .tuple (toRL rs)]) ?_ rfl⟩
            refine (z1 _ _).trans ((z2 _ _).trans ((z3 _ _).trans (seq_ret ((ite_t k4).trans ?_))))
            refine (seq_next (ρ' := [.d (.int c), .d (.list (ws.map .str)), .d (.list (fs.map toF)), .d (.int D), .d (.int (c % 9)), .d (.int (mixV c 3)), .d (.str w), .d (.list (few.map toF)), .un, .d (.int n4)]) (σ' := σ) (by simp only [rb_ok, lift_some, o_map, eE_none, eE_bool, eE_int, eE_str, eE_var, eE_glob, eE_bin, eE_neg, eE_not, eE_bop, eB_one, eB_more, eE_cmp, eE_cmp2, eE_ite, eE_tup, eE_list, eE_dict0, eE_dict1, eE_idx, eE_slc, eE_call, eE_bi, eE_meth, eE_freeze, eL_nil, eL_cons, eO_no, eO_yes, eI_seq, eI_range, x_expr, x_asg, x_ite, x_ret, x_pass, x_put, x_for, xs_nil, xs_cons, stepO_next, stepO_ret, look_d, look_loc, look_locs, negR_int, noneR_none, pick_tt, pick_tf, pick_ft, pick_ff, pickO_t, pickO_f, pickB_t, t_bool, b_add, b_sub, c_lt, c_eqI, c_eqS, c_neS, List.getElem?_cons_zero, List.getElem?_cons_succ, List.set_cons_zero, List.set_cons_succ, Bool.not_true, Bool.not_false, decide_true, decide_false, b_fdiv _ _ q27, b_mod _ _ p4, d4, i4])).trans ?_
            refine (seq_next (ρ' := [.d (.int c), .d (.list (ws.map .str)), .d (.list (fs.map toF)), .d (.int D), .d (.int (c % 9)), .d (.int (mixV c 3)), .d (.str w), .d (.list (few.map toF)), .un, .d (.int n5)]) (σ' := σ) ((ite_t k5).trans (by simp only [rb_ok, lift_some, o_map, eE_none, eE_bool, eE_int, eE_str, eE_var, eE_glob, eE_bin, eE_neg, eE_not, eE_bop, eB_one, eB_more, eE_cmp, eE_cmp2, eE_ite, eE_tup, eE_list, eE_dict0, eE_dict1, eE_idx, eE_slc, eE_call, eE_bi, eE_meth, eE_freeze, eL_nil, eL_cons, eO_no, eO_yes, eI_seq, eI_range, x_expr, x_asg, x_ite, x_ret, x_pass, x_put, x_for, xs_nil, xs_cons, stepO_next, stepO_ret, look_d, look_loc, look_locs, negR_int, noneR_none, pick_tt, pick_tf, pick_ft, pick_ff, pickO_t, pickO_f, pickB_t, t_bool, b_add, b_sub, c_lt, c_eqI, c_eqS, c_neS, List.getElem?_cons_zero, List.getElem?_cons_succ, List.set_cons_zero, List.set_cons_succ, Bool.not_true, Bool.not_false, decide_true, decide_false, b_fdiv _ _ q27, b_fdiv _ _ q135, b_mod _ _ p10, d5, b_mod _ _ p5, i5]))).trans ?_
            simp only [rb_ok, lift_some, o_map, eE_none, eE_bool, eE_int, eE_str, eE_var, eE_glob, eE_bin, eE_neg, eE_not, eE_bop, eB_one, eB_more, eE_cmp, eE_cmp2, eE_ite, eE_tup, eE_list, eE_dict0, eE_dict1, eE_idx, eE_slc, eE_call, eE_bi, eE_meth, eE_freeze, eL_nil, eL_cons, eO_no, eO_yes, eI_seq, eI_range, x_expr, x_asg, x_ite, x_ret, x_pass, x_put, x_for, xs_nil, xs_cons, stepO_next, stepO_ret, look_d, look_loc, look_locs, negR_int, noneR_none, pick_tt, pick_tf, pick_ft, pick_ff, pickO_t, pickO_f, pickB_t, t_bool, b_add, b_sub, c_lt, c_eqI, c_eqS, c_neS, List.getElem?_cons_zero, List.getElem?_cons_succ, List.set_cons_zero, List.set_cons_succ, Bool.not_true, Bool.not_false, decide_true, decide_false, de, b_fdiv _ _ q9, b_mod _ _ p3, ers, dispT_three]
          | false =>
            rw [h5] at k5
            refine ⟨.aga n4 rs, ⟨a1, Nat.succ_le_succ a2, row_size hm a3⟩, fin (x := .tuple [.str s_again, .int n4, .tuple (toRL rs)]) ?_ rfl⟩
            refine (z1 _ _).trans ((z2 _ _).trans ((z3 _ _).trans (seq_ret ((ite_t k4).trans ?_))))
            refine (seq_next (ρ' := [.d (.int c), .d (.list (ws.map .str)), .d (.list (fs.map toF)), .d (.int D), .d (.int (c % 9)), .d (.int (mixV c 3)), .d (.str w), .d (.list (few.map toF)), .un, .d (.int n4)]) (σ' := σ) (by simp only [rb_ok, lift_some, o_map, eE_none, eE_bool, eE_int, eE_str, eE_var, eE_glob, eE_bin, eE_neg, eE_not, eE_bop, eB_one, eB_more, eE_cmp, eE_cmp2, eE_ite, eE_tup, eE_list, eE_dict0, eE_dict1, eE_idx, eE_slc, eE_call, eE_bi, eE_meth, eE_freeze, eL_nil, eL_cons, eO_no, eO_yes, eI_seq, eI_range, x_expr, x_asg, x_ite, x_ret, x_pass, x_put, x_for, xs_nil, xs_cons, stepO_next, stepO_ret, look_d, look_loc, look_locs, negR_int, noneR_none, pick_tt, pick_tf, pick_ft, pick_ff, pickO_t, pickO_f, pickB_t, t_bool, b_add, b_sub, c_lt, c_eqI, c_eqS, c_neS, List.getElem?_cons_zero, List.getElem?_cons_succ, List.set_cons_zero, List.set_cons_succ, Bool.not_true, Bool.not_false, decide_true, decide_false, b_fdiv _ _ q27, b_mod _ _ p4, d4, i4])).trans ?_
            refine (seq_next ((ite_f k5).trans (xs_nil ..))).trans ?_
            simp only [rb_ok, lift_some, o_map, eE_none, eE_bool, eE_int, eE_str, eE_var, eE_glob, eE_bin, eE_neg, eE_not, eE_bop, eB_one, eB_more, eE_cmp, eE_cmp2, eE_ite, eE_tup, eE_list, eE_dict0, eE_dict1, eE_idx, eE_slc, eE_call, eE_bi, eE_meth, eE_freeze, eL_nil, eL_cons, eO_no, eO_yes, eI_seq, eI_range, x_expr, x_asg, x_ite, x_ret, x_pass, x_put, x_for, xs_nil, xs_cons, stepO_next, stepO_ret, look_d, look_loc, look_locs, negR_int, noneR_none, pick_tt, pick_tf, pick_ft, pick_ff, pickO_t, pickO_f, pickB_t, t_bool, b_add, b_sub, c_lt, c_eqI, c_eqS, c_neS, List.getElem?_cons_zero, List.getElem?_cons_succ, List.set_cons_zero, List.set_cons_succ, Bool.not_true, Bool.not_false, decide_true, decide_false, de, b_fdiv _ _ q9, b_mod _ _ p3, ers, dispT_three]
        | false =>
          rw [h4] at k4
          have hm := emod_range (c % 9) p2
          obtain ⟨n, hn, hn2⟩ : ∃ n : Nat, 1 + c % 9 % 2 = (n : Int) ∧ n ≤ 2 := ⟨(1 + c % 9 % 2).toNat, by omega, by omega⟩
          obtain ⟨t, ht, et⟩ := call_term ws hw n d (mixV c 3) σ (by omega)
          refine ⟨.set w t, ⟨⟨hwm, okN_of hn2 ht⟩, Nat.zero_le _, kp⟩, fin (x := .tuple [.str s_set, .str w, toD t]) ?_ rfl⟩
          refine (z1 _ _).trans ((z2 _ _).trans ((z3 _ _).trans ((seq_next ((ite_f k4).trans (xs_nil ..))).trans ?_)))
          simp only [rb_ok, lift_some, o_map, eE_none, eE_bool, eE_int, eE_str, eE_var, eE_glob, eE_bin, eE_neg, eE_not, eE_bop, eB_one, eB_more, eE_cmp, eE_cmp2, eE_ite, eE_tup, eE_list, eE_dict0, eE_dict1, eE_idx, eE_slc, eE_call, eE_bi, eE_meth, eE_freeze, eL_nil, eL_cons, eO_no, eO_yes, eI_seq, eI_range, x_expr, x_asg, x_ite, x_ret, x_pass, x_put, x_for, xs_nil, xs_cons, stepO_next, stepO_ret, look_d, look_loc, look_locs, negR_int, noneR_none, pick_tt, pick_tf, pick_ft, pick_ff, pickO_t, pickO_f, pickB_t, t_bool, b_add, b_sub, c_lt, c_eqI, c_eqS, c_neS, List.getElem?_cons_zero, List.getElem?_cons_succ, List.set_cons_zero, List.set_cons_succ, Bool.not_true, Bool.not_false, decide_true, decide_false, b_mod _ _ p2, hn, et, dispT_three]

theorem rows_ok {ws : List Str} (hw : 0 < ws.length) : ∀ deep, RowsOk ws deep
  | 0 => rows_of_row (row_ok hw fun e h => by cases h)
  | n + 1 => rows_of_row (row_ok hw fun e h => by cases h; exact rows_ok hw n)
end Mine.L03

set_option autoImplicit false
set_option linter.unusedVariables false
set_option linter.unusedSimpArgs false
namespace Mine.L03
open PySem Mine

theorem ift : (if (true = true) then (1 : Int) else 0) = 1 := rfl
theorem iff' : (if (false = true) then (1 : Int) else 0) = 0 := rfl
theorem p12 : (0 : Int) < 12 := by decide
theorem p30 : (0 : Int) < 30 := by decide
theorem q30 : (0 : Int) < 30 ∧ (30 : Int) < 9223372036854775808 := by decide
theorem q180 : (0 : Int) < 180 ∧ (180 : Int) < 9223372036854775808 := by decide
theorem q2160 : (0 : Int) < 2160 ∧ (2160 : Int) < 9223372036854775808 := by decide
theorem m2l (c : Int) : mulOk 2 c = true := mulOk_l (by decide)
noncomputable def okG (ws : List Str) (f : Fd) : Prop := okF ws f ∧ hL f.rs ≤ 2 ∧ nL f.rs ≤ 390

theorem call_function {ws : List Str} (hw : 0 < ws.length) {fs : List Fd} (hok : ∀ f ∈ fs, okF ws f) (c : Int) (nm : Str) (d : Nat) (σ : Store) : ∃ f, okG ws f ∧
    callF prog (d + 16) i_law_function [.d (.int c), .d (.str nm), .d (.list (ws.map .str)), .d (.list (fs.map toF))] σ = .ok (.d (toF f)) σ := by
  have hwl : 0 < (((ws.map PyData.str).length : Nat) : Int) := by simp; omega
  obtain ⟨n0, hn0, i0⟩ := idx_ints [0, 1, 2, 2, 3, 4] (emod_range c p6).1 (emod_range c p6).2 σ
  have d0 := dispL_ints [0, 1, 2, 2, 3, 4] σ
  obtain ⟨n6, hn6, i6⟩ := idx_ints [3, 4, 2, 5, 0, 6] (emod_range (c / 30) p6).1 (emod_range (c / 30) p6).2 σ
  have d6 := dispL_ints [3, 4, 2, 5, 0, 6] σ
  simp only [List.map_cons, List.map_nil] at i0 d0 i6 d6
  have b0 : 0 ≤ n0 ∧ n0 ≤ 4 := by simp at hn0; omega
  have b6 : 0 ≤ n6 ∧ n6 ≤ 6 := by simp at hn6; omega
  generalize hfirst : c / 6 % ((ws.map PyData.str).length : Int) = first
  have hsk : ∀ k : Nat, True → ∃ w, w ∈ ws ∧ idxV (.d (.list (ws.map .str))) (.d (.int ((first + 2 * k) % ((ws.map PyData.str).length : Int)))) (σ ++ [.busy]) = some (.d (.str w)) := fun k _ =>
    word_at (emod_range _ hwl).1 (by have := (emod_range (first + 2 * k) hwl).2; simpa using this) _
  obtain ⟨g, hg⟩ := skol s_name hsk
  have comp := comp_range (callF prog (d + 15)) (i := 8) (eb := .idx (.list false (.cons (.int 0) (.cons (.int 1) (.cons (.int 2) (.cons (.int 2) (.cons (.int 3) (.cons (.int 4) (.nil)))))))) (.bin .mod false (.var 0) (.int 6))) (e := .idx (.var 2) (.bin .mod false (.bin .add false (.var 4) (.bin .mul false (.int 2) (.var 8))) (.bi .len false (.cons (.var 2) (.nil)))))
    (ρ := [.d (.int c), .d (.str nm), .d (.list (ws.map .str)), .d (.list (fs.map toF)), .d (.int first), .un, .un, .un, .un]) (σ := σ) (b := n0) (fun k => .str (g k)) (by simp only [rb_ok, lift_some, o_map, eE_none, eE_bool, eE_int, eE_str, eE_var, eE_glob, eE_bin, eE_neg, eE_not, eE_bop, eB_one, eB_more, eE_cmp, eE_cmp2, eE_ite, eE_tup, eE_list, eE_dict0, eE_dict1, eE_idx, eE_slc, eE_call, eE_bi, eE_meth, eE_freeze, eL_nil, eL_cons, eO_no, eO_yes, eI_seq, eI_range, x_expr, x_asg, x_ite, x_ret, x_pass, x_put, x_for, xs_nil, xs_cons, stepO_next, stepO_ret, look_d, look_loc, look_locs, negR_int, noneR_none, pick_tt, pick_tf, pick_ft, pick_ff, pickO_t, pickO_f, pickB_t, t_bool, b_add, b_sub, c_lt, c_eqI, c_eqS, c_neS, List.getElem?_cons_zero, List.getElem?_cons_succ, List.set_cons_zero, List.set_cons_succ, Bool.not_true, Bool.not_false, decide_true, decide_false, d0, b_mod _ _ p6, i0]) (by omega) (fun k hk => by
      simp only [rb_ok, lift_some, o_map, eE_none, eE_bool, eE_int, eE_str, eE_var, eE_glob, eE_bin, eE_neg, eE_not, eE_bop, eB_one, eB_more, eE_cmp, eE_cmp2, eE_ite, eE_tup, eE_list, eE_dict0, eE_dict1, eE_idx, eE_slc, eE_call, eE_bi, eE_meth, eE_freeze, eL_nil, eL_cons, eO_no, eO_yes, eI_seq, eI_range, x_expr, x_asg, x_ite, x_ret, x_pass, x_put, x_for, xs_nil, xs_cons, stepO_next, stepO_ret, look_d, look_loc, look_locs, negR_int, noneR_none, pick_tt, pick_tf, pick_ft, pick_ff, pickO_t, pickO_f, pickB_t, t_bool, b_add, b_sub, c_lt, c_eqI, c_eqS, c_neS, List.getElem?_cons_zero, List.getElem?_cons_succ, List.set_cons_zero, List.set_cons_succ, Bool.not_true, Bool.not_false, decide_true, decide_false, b_mul _ _ (m2l _), len_list, b_mod _ _ hwl, (hg k trivial).2])
  rw [map_str] at comp
  generalize hps : (List.range n0.toNat).map g = ps at comp
  have okp : (∀ x ∈ ps, x ∈ ws) ∧ ps.length ≤ 4 := by
    subst hps
    refine ⟨fun x hx => ?_, by simp only [List.length_map, List.length_range]; omega⟩
    obtain ⟨k, _, rfl⟩ := List.mem_map.mp hx
    exact (hg k trivial).1
  have mx5 : callF prog (d + 15) i_law_mixed [.d (.int c), .d (.int 5)] σ = .ok (.d (.int (mixV c 5))) σ := call_mixed (d + 14) c 5 σ
  have mx6 : callF prog (d + 15) i_law_mixed [.d (.int c), .d (.int 6)] σ = .ok (.d (.int (mixV c 6))) σ := call_mixed (d + 14) c 6 σ
  obtain ⟨t, ht, et⟩ := call_term ws hw 1 (d + 15) (mixV c 6) σ (by omega)
  have et : callF prog (d + 15) i_law_term [.d (.int (mixV c 6)), .d (.list (ws.map .str)), .d (.int 1)] σ = .ok (.d (toD t)) σ := et
  have s1 : exec prog.G (callF prog (d + 15)) (.asg (.var 4) (.bin .mod false (.bin .fdiv false (.var 0) (.int 6)) (.bi .len false (.cons (.var 2) (.nil))))) [.d (.int c), .d (.str nm), .d (.list (ws.map .str)), .d (.list (fs.map toF)), .un, .un, .un, .un, .un] σ = .ok (.next [.d (.int c), .d (.str nm), .d (.list (ws.map .str)), .d (.list (fs.map toF)), .d (.int first), .un, .un, .un, .un]) σ := by simp only [rb_ok, lift_some, o_map, eE_none, eE_bool, eE_int, eE_str, eE_var, eE_glob, eE_bin, eE_neg, eE_not, eE_bop, eB_one, eB_more, eE_cmp, eE_cmp2, eE_ite, eE_tup, eE_list, eE_dict0, eE_dict1, eE_idx, eE_slc, eE_call, eE_bi, eE_meth, eE_freeze, eL_nil, eL_cons, eO_no, eO_yes, eI_seq, eI_range, x_expr, x_asg, x_ite, x_ret, x_pass, x_put, x_for, xs_nil, xs_cons, stepO_next, stepO_ret, look_d, look_loc, look_locs, negR_int, noneR_none, pick_tt, pick_tf, pick_ft, pick_ff, pickO_t, pickO_f, pickB_t, t_bool, b_add, b_sub, c_lt, c_eqI, c_eqS, c_neS, List.getElem?_cons_zero, List.getElem?_cons_succ, List.set_cons_zero, List.set_cons_succ, Bool.not_true, Bool.not_false, decide_true, decide_false, b_fdiv _ _ q6, len_list, b_mod _ _ hwl, hfirst]
  have s2 : exec prog.G (callF prog (d + 15)) (.asg (.var 5) (.bi .tuple false (.cons (.comp false (.var 8) (.range (.idx (.list false (.cons (.int 0) (.cons (.int 1) (.cons (.int 2) (.cons (.int 2) (.cons (.int 3) (.cons (.int 4) (.nil)))))))) (.bin .mod false (.var 0) (.int 6)))) .no (.idx (.var 2) (.bin .mod false (.bin .add false (.var 4) (.bin .mul false (.int 2) (.var 8))) (.bi .len false (.cons (.var 2) (.nil)))))) (.nil)))) [.d (.int c), .d (.str nm), .d (.list (ws.map .str)), .d (.list (fs.map toF)), .d (.int first), .un, .un, .un, .un] σ = .ok (.next [.d (.int c), .d (.str nm), .d (.list (ws.map .str)), .d (.list (fs.map toF)), .d (.int first), .d (.tuple (ps.map .str)), .un, .un, .un]) σ := by simp only [rb_ok, lift_some, o_map, eE_none, eE_bool, eE_int, eE_str, eE_var, eE_glob, eE_bin, eE_neg, eE_not, eE_bop, eB_one, eB_more, eE_cmp, eE_cmp2, eE_ite, eE_tup, eE_list, eE_dict0, eE_dict1, eE_idx, eE_slc, eE_call, eE_bi, eE_meth, eE_freeze, eL_nil, eL_cons, eO_no, eO_yes, eI_seq, eI_range, x_expr, x_asg, x_ite, x_ret, x_pass, x_put, x_for, xs_nil, xs_cons, stepO_next, stepO_ret, look_d, look_loc, look_locs, negR_int, noneR_none, pick_tt, pick_tf, pick_ft, pick_ff, pickO_t, pickO_f, pickB_t, t_bool, b_add, b_sub, c_lt, c_eqI, c_eqS, c_neS, List.getElem?_cons_zero, List.getElem?_cons_succ, List.set_cons_zero, List.set_cons_succ, Bool.not_true, Bool.not_false, decide_true, decide_false, comp, tup_list]
  have s3 : exec prog.G (callF prog (d + 15)) (.asg (.var 6) (.idx (.list false (.cons (.int 3) (.cons (.int 4) (.cons (.int 2) (.cons (.int 5) (.cons (.int 0) (.cons (.int 6) (.nil)))))))) (.bin .mod false (.bin .fdiv false (.var 0) (.int 30)) (.int 6)))) [.d (.int c), .d (.str nm), .d (.list (ws.map .str)), .d (.list (fs.map toF)), .d (.int first), .d (.tuple (ps.map .str)), .un, .un, .un] σ = .ok (.next [.d (.int c), .d (.str nm), .d (.list (ws.map .str)), .d (.list (fs.map toF)), .d (.int first), .d (.tuple (ps.map .str)), .d (.int n6), .un, .un]) σ := by simp only [rb_ok, lift_some, o_map, eE_none, eE_bool, eE_int, eE_str, eE_var, eE_glob, eE_bin, eE_neg, eE_not, eE_bop, eB_one, eB_more, eE_cmp, eE_cmp2, eE_ite, eE_tup, eE_list, eE_dict0, eE_dict1, eE_idx, eE_slc, eE_call, eE_bi, eE_meth, eE_freeze, eL_nil, eL_cons, eO_no, eO_yes, eI_seq, eI_range, x_expr, x_asg, x_ite, x_ret, x_pass, x_put, x_for, xs_nil, xs_cons, stepO_next, stepO_ret, look_d, look_loc, look_locs, negR_int, noneR_none, pick_tt, pick_tf, pick_ft, pick_ff, pickO_t, pickO_f, pickB_t, t_bool, b_add, b_sub, c_lt, c_eqI, c_eqS, c_neS, List.getElem?_cons_zero, List.getElem?_cons_succ, List.set_cons_zero, List.set_cons_succ, Bool.not_true, Bool.not_false, decide_true, decide_false, d6, b_fdiv _ _ q30, b_mod _ _ p6, i6]
  obtain ⟨M, bM, s4⟩ : ∃ M : Int, (0 ≤ M ∧ M < 30) ∧ exec prog.G (callF prog (d + 15)) (.ite (.cmp .eq (.bin .mod false (.bin .fdiv false (.var 0) (.int 180)) (.int 12)) (.int 1))
    (.cons (.asg (.var 6) (.bin .mod false (.bin .fdiv false (.var 0) (.int 2160)) (.int 30))) (
    .nil))
    (.nil)) [.d (.int c), .d (.str nm), .d (.list (ws.map .str)), .d (.list (fs.map toF)), .d (.int first), .d (.tuple (ps.map .str)), .d (.int n6), .un, .un] σ = .ok (.next [.d (.int c), .d (.str nm), .d (.list (ws.map .str)), .d (.list (fs.map toF)), .d (.int first), .d (.tuple (ps.map .str)), .d (.int M), .un, .un]) σ := by
    by_cases h1 : c / 180 % 12 = 1
    · exact ⟨c / 2160 % 30, emod_range _ p30, (ite_t (σ' := σ) (by simp only [rb_ok, lift_some, o_map, eE_none, eE_bool, eE_int, eE_str, eE_var, eE_glob, eE_bin, eE_neg, eE_not, eE_bop, eB_one, eB_more, eE_cmp, eE_cmp2, eE_ite, eE_tup, eE_list, eE_dict0, eE_dict1, eE_idx, eE_slc, eE_call, eE_bi, eE_meth, eE_freeze, eL_nil, eL_cons, eO_no, eO_yes, eI_seq, eI_range, x_expr, x_asg, x_ite, x_ret, x_pass, x_put, x_for, xs_nil, xs_cons, stepO_next, stepO_ret, look_d, look_loc, look_locs, negR_int, noneR_none, pick_tt, pick_tf, pick_ft, pick_ff, pickO_t, pickO_f, pickB_t, t_bool, b_add, b_sub, c_lt, c_eqI, c_eqS, c_neS, List.getElem?_cons_zero, List.getElem?_cons_succ, List.set_cons_zero, List.set_cons_succ, Bool.not_true, Bool.not_false, decide_true, decide_false, b_fdiv _ _ q180, b_mod _ _ p12, decide_eq_true h1])).trans (by simp only [rb_ok, lift_some, o_map, eE_none, eE_bool, eE_int, eE_str, eE_var, eE_glob, eE_bin, eE_neg, eE_not, eE_bop, eB_one, eB_more, eE_cmp, eE_cmp2, eE_ite, eE_tup, eE_list, eE_dict0, eE_dict1, eE_idx, eE_slc, eE_call, eE_bi, eE_meth, eE_freeze, eL_nil, eL_cons, eO_no, eO_yes, eI_seq, eI_range, x_expr, x_asg, x_ite, x_ret, x_pass, x_put, x_for, xs_nil, xs_cons, stepO_next, stepO_ret, look_d, look_loc, look_locs, negR_int, noneR_none, pick_tt, pick_tf, pick_ft, pick_ff, pickO_t, pickO_f, pickB_t, t_bool, b_add, b_sub, c_lt, c_eqI, c_eqS, c_neS, List.getElem?_cons_zero, List.getElem?_cons_succ, List.set_cons_zero, List.set_cons_succ, Bool.not_true, Bool.not_false, decide_true, decide_false, b_fdiv _ _ q2160, b_mod _ _ p30])⟩
    · exact ⟨n6, ⟨b6.1, Int.lt_of_le_of_lt b6.2 (by decide)⟩, (ite_f (σ' := σ) (by simp only [rb_ok, lift_some, o_map, eE_none, eE_bool, eE_int, eE_str, eE_var, eE_glob, eE_bin, eE_neg, eE_not, eE_bop, eB_one, eB_more, eE_cmp, eE_cmp2, eE_ite, eE_tup, eE_list, eE_dict0, eE_dict1, eE_idx, eE_slc, eE_call, eE_bi, eE_meth, eE_freeze, eL_nil, eL_cons, eO_no, eO_yes, eI_seq, eI_range, x_expr, x_asg, x_ite, x_ret, x_pass, x_put, x_for, xs_nil, xs_cons, stepO_next, stepO_ret, look_d, look_loc, look_locs, negR_int, noneR_none, pick_tt, pick_tf, pick_ft, pick_ff, pickO_t, pickO_f, pickB_t, t_bool, b_add, b_sub, c_lt, c_eqI, c_eqS, c_neS, List.getElem?_cons_zero, List.getElem?_cons_succ, List.set_cons_zero, List.set_cons_succ, Bool.not_true, Bool.not_false, decide_true, decide_false, b_fdiv _ _ q180, b_mod _ _ p12, decide_eq_false h1])).trans (xs_nil ..)⟩
  obtain ⟨hs, deep, hd2, hok', s5, edeep⟩ : ∃ (hs : List Fd) (deep : Nat), deep ≤ 2 ∧ (∀ f ∈ hs, okF ws f) ∧ exec prog.G (callF prog (d + 15)) (.ite (.cmp .gt (.var 6) (.int 6))
    (.cons (.asg (.var 3) (.list false (.nil))) (
    .nil))
    (.nil)) [.d (.int c), .d (.str nm), .d (.list (ws.map .str)), .d (.list (fs.map toF)), .d (.int first), .d (.tuple (ps.map .str)), .d (.int M), .un, .un] σ = .ok (.next [.d (.int c), .d (.str nm), .d (.list (ws.map .str)), .d (.list (hs.map toF)), .d (.int first), .d (.tuple (ps.map .str)), .d (.int M), .un, .un]) σ ∧ (2 - if decide (M > 6) = true then (1 : Int) else 0) = (deep : Int) := by
    by_cases h2 : M > 6
    · exact ⟨[], 1, by decide, (fun f hf => by cases hf), (ite_t (σ' := σ) (by simp only [rb_ok, lift_some, o_map, eE_none, eE_bool, eE_int, eE_str, eE_var, eE_glob, eE_bin, eE_neg, eE_not, eE_bop, eB_one, eB_more, eE_cmp, eE_cmp2, eE_ite, eE_tup, eE_list, eE_dict0, eE_dict1, eE_idx, eE_slc, eE_call, eE_bi, eE_meth, eE_freeze, eL_nil, eL_cons, eO_no, eO_yes, eI_seq, eI_range, x_expr, x_asg, x_ite, x_ret, x_pass, x_put, x_for, xs_nil, xs_cons, stepO_next, stepO_ret, look_d, look_loc, look_locs, negR_int, noneR_none, pick_tt, pick_tf, pick_ft, pick_ff, pickO_t, pickO_f, pickB_t, t_bool, b_add, b_sub, c_lt, c_eqI, c_eqS, c_neS, List.getElem?_cons_zero, List.getElem?_cons_succ, List.set_cons_zero, List.set_cons_succ, Bool.not_true, Bool.not_false, decide_true, decide_false, c_gt, decide_eq_true h2])).trans (by simp only [rb_ok, lift_some, o_map, eE_none, eE_bool, eE_int, eE_str, eE_var, eE_glob, eE_bin, eE_neg, eE_not, eE_bop, eB_one, eB_more, eE_cmp, eE_cmp2, eE_ite, eE_tup, eE_list, eE_dict0, eE_dict1, eE_idx, eE_slc, eE_call, eE_bi, eE_meth, eE_freeze, eL_nil, eL_cons, eO_no, eO_yes, eI_seq, eI_range, x_expr, x_asg, x_ite, x_ret, x_pass, x_put, x_for, xs_nil, xs_cons, stepO_next, stepO_ret, look_d, look_loc, look_locs, negR_int, noneR_none, pick_tt, pick_tf, pick_ft, pick_ff, pickO_t, pickO_f, pickB_t, t_bool, b_add, b_sub, c_lt, c_eqI, c_eqS, c_neS, List.getElem?_cons_zero, List.getElem?_cons_succ, List.set_cons_zero, List.set_cons_succ, Bool.not_true, Bool.not_false, decide_true, decide_false, dispL_nil, mkL_f, List.map_nil]), by rw [decide_eq_true h2]; rfl⟩
    · exact ⟨fs, 2, by decide, hok, (ite_f (σ' := σ) (by simp only [rb_ok, lift_some, o_map, eE_none, eE_bool, eE_int, eE_str, eE_var, eE_glob, eE_bin, eE_neg, eE_not, eE_bop, eB_one, eB_more, eE_cmp, eE_cmp2, eE_ite, eE_tup, eE_list, eE_dict0, eE_dict1, eE_idx, eE_slc, eE_call, eE_bi, eE_meth, eE_freeze, eL_nil, eL_cons, eO_no, eO_yes, eI_seq, eI_range, x_expr, x_asg, x_ite, x_ret, x_pass, x_put, x_for, xs_nil, xs_cons, stepO_next, stepO_ret, look_d, look_loc, look_locs, negR_int, noneR_none, pick_tt, pick_tf, pick_ft, pick_ff, pickO_t, pickO_f, pickB_t, t_bool, b_add, b_sub, c_lt, c_eqI, c_eqS, c_neS, List.getElem?_cons_zero, List.getElem?_cons_succ, List.set_cons_zero, List.set_cons_succ, Bool.not_true, Bool.not_false, decide_true, decide_false, c_gt, decide_eq_false h2])).trans (xs_nil ..), by rw [decide_eq_false h2]; rfl⟩
  obtain ⟨rs, hrs, ers⟩ := rows_ok hw deep hs (mixV c 5) M (d + 15) σ hok' ⟨bM.1, Int.le_of_lt bM.2⟩ (by omega)
  have s6 : exec prog.G (callF prog (d + 15)) (.asg (.var 7) (.call i_law_rows (.cons (.call i_law_mixed (.cons (.var 0) (.cons (.int 5) (.nil)))) (.cons (.var 2) (.cons (.var 3) (.cons (.bin .sub false (.int 2) (.bi .int false (.cons (.cmp .gt (.var 6) (.int 6)) (.nil)))) (.cons (.var 6) (.nil)))))))) [.d (.int c), .d (.str nm), .d (.list (ws.map .str)), .d (.list (hs.map toF)), .d (.int first), .d (.tuple (ps.map .str)), .d (.int M), .un, .un] σ = .ok (.next [.d (.int c), .d (.str nm), .d (.list (ws.map .str)), .d (.list (hs.map toF)), .d (.int first), .d (.tuple (ps.map .str)), .d (.int M), .d (.tuple (toRL rs)), .un]) σ := by simp only [rb_ok, lift_some, o_map, eE_none, eE_bool, eE_int, eE_str, eE_var, eE_glob, eE_bin, eE_neg, eE_not, eE_bop, eB_one, eB_more, eE_cmp, eE_cmp2, eE_ite, eE_tup, eE_list, eE_dict0, eE_dict1, eE_idx, eE_slc, eE_call, eE_bi, eE_meth, eE_freeze, eL_nil, eL_cons, eO_no, eO_yes, eI_seq, eI_range, x_expr, x_asg, x_ite, x_ret, x_pass, x_put, x_for, xs_nil, xs_cons, stepO_next, stepO_ret, look_d, look_loc, look_locs, negR_int, noneR_none, pick_tt, pick_tf, pick_ft, pick_ff, pickO_t, pickO_f, pickB_t, t_bool, b_add, b_sub, c_lt, c_eqI, c_eqS, c_neS, List.getElem?_cons_zero, List.getElem?_cons_succ, List.set_cons_zero, List.set_cons_succ, Bool.not_true, Bool.not_false, decide_true, decide_false, mx5, c_gt, int_bool, edeep, ers]
  have s7 : execs prog.G (callF prog (d + 15)) (.cons (.ret (.tup (.cons (.var 1) (.cons (.var 5) (.cons (.var 7) (.cons (.call i_law_term (.cons (.call i_law_mixed (.cons (.var 0) (.cons (.int 6) (.nil)))) (.cons (.var 2) (.cons (.int 1) (.nil))))) (.nil))))))) .nil) [.d (.int c), .d (.str nm), .d (.list (ws.map .str)), .d (.list (hs.map toF)), .d (.int first), .d (.tuple (ps.map .str)), .d (.int M), .d (.tuple (toRL rs)), .un] σ = .ok (.ret (.d (.tuple [.str nm, .tuple (ps.map .str), .tuple (toRL rs), toD t]))) σ := by simp only [rb_ok, lift_some, o_map, eE_none, eE_bool, eE_int, eE_str, eE_var, eE_glob, eE_bin, eE_neg, eE_not, eE_bop, eB_one, eB_more, eE_cmp, eE_cmp2, eE_ite, eE_tup, eE_list, eE_dict0, eE_dict1, eE_idx, eE_slc, eE_call, eE_bi, eE_meth, eE_freeze, eL_nil, eL_cons, eO_no, eO_yes, eI_seq, eI_range, x_expr, x_asg, x_ite, x_ret, x_pass, x_put, x_for, xs_nil, xs_cons, stepO_next, stepO_ret, look_d, look_loc, look_locs, negR_int, noneR_none, pick_tt, pick_tf, pick_ft, pick_ff, pickO_t, pickO_f, pickB_t, t_bool, b_add, b_sub, c_lt, c_eqI, c_eqS, c_neS, List.getElem?_cons_zero, List.getElem?_cons_succ, List.set_cons_zero, List.set_cons_succ, Bool.not_true, Bool.not_false, decide_true, decide_false, mx6, et, dispT_four]
  have hk : KK deep ≤ 13 := by
    have : deep = 0 ∨ deep = 1 ∨ deep = 2 := by omega
    rcases this with h | h | h <;> rw [h] <;> decide
  have hn : nL rs ≤ 390 := by
    have h1 : M.toNat ≤ 30 := by omega
    exact Nat.le_trans hrs.2.2 (Nat.mul_le_mul h1 hk)
  refine ⟨⟨nm, ps, rs, t⟩, ⟨⟨okp.1, okp.2, hrs.1, Nat.le_trans hrs.2.1 (Nat.le_trans hd2 (by decide)), Nat.le_trans hn (by decide), okN_of (by decide) ht⟩, Nat.le_trans hrs.2.1 hd2, hn⟩, ?_⟩
  rw [callF_is (fn := f_law_function) rfl (d + 15) _ _ rfl]
  show (execs prog.G (callF prog (d + 15)) b_law_function [.d (.int c), .d (.str nm), .d (.list (ws.map .str)), .d (.list (fs.map toF)), .un, .un, .un, .un, .un] σ).bind (finR σ.length) = _
  have run : execs prog.G (callF prog (d + 15)) b_law_function [.d (.int c), .d (.str nm), .d (.list (ws.map .str)), .d (.list (fs.map toF)), .un, .un, .un, .un, .un] σ = .ok (.ret (.d (.tuple [.str nm, .tuple (ps.map .str), .tuple (toRL rs), toD t]))) σ := (seq_next s1).trans ((seq_next s2).trans ((seq_next s3).trans ((seq_next s4).trans ((seq_next s5).trans ((seq_next s6).trans s7)))))
  rw [run, rb_ok, finR_ret, exit_d]; rfl

/-! variables -/
theorem q512 : (0 : Int) < 512 ∧ (512 : Int) < 9223372036854775808 := by decide
theorem cell_at (d : Nat) (l : List Int) (σ : Store) (k : Nat) (i : Int) (hi : i = (k : Int)) : callF prog (d + 1) i_law_cell [.d (.list (l.map .int)), .d (.int i)] σ = .ok (.d (.int (cellV l k))) σ := by subst hi; exact call_cell d l k σ
theorem call_variables (l : List Int) : ∃ ws : List Str, (0 < ws.length ∧ ws.length ≤ 7 ∧ ws.Nodup) ∧ ∀ (d : Nat) (σ : Store), callF prog (d + 3) i_law_variables [.d (.list (l.map .int)), .d (.int 2)] σ = .ok (.d (.list (ws.map .str))) σ := by
  by_cases h : cellV l 4 / 512 % 8 = 1
  · obtain ⟨ws, h1, h2, h3⟩ := call_words (cellV l 2) (5 + 2 * 1) (by omega) 0 []
    refine ⟨ws, ⟨by rw [h1]; decide, by rw [h1]; decide, h2⟩, fun d σ => ?_⟩
    have c2 : callF prog (d + 2) i_law_cell [.d (.list (l.map .int)), .d (.int 2)] σ = .ok (.d (.int (cellV l 2))) σ := cell_at (d + 1) l σ 2 2 rfl
    have c4 : callF prog (d + 2) i_law_cell [.d (.list (l.map .int)), .d (.int (2 + 2))] σ = .ok (.d (.int (cellV l 4))) σ := cell_at (d + 1) l σ 4 (2 + 2) rfl
    rw [callF_is (fn := f_law_variables) rfl (d + 2) _ _ rfl]
    show (execs prog.G (callF prog (d + 2)) b_law_variables [.d (.list (l.map .int)), .d (.int 2)] σ).bind (finR σ.length) = _
    unfold b_law_variables
    simp only [rb_ok, lift_some, o_map, eE_none, eE_bool, eE_int, eE_str, eE_var, eE_glob, eE_bin, eE_neg, eE_not, eE_bop, eB_one, eB_more, eE_cmp, eE_cmp2, eE_ite, eE_tup, eE_list, eE_dict0, eE_dict1, eE_idx, eE_slc, eE_call, eE_bi, eE_meth, eE_freeze, eL_nil, eL_cons, eO_no, eO_yes, eI_seq, eI_range, x_expr, x_asg, x_ite, x_ret, x_pass, x_put, x_for, xs_nil, xs_cons, stepO_next, stepO_ret, look_d, look_loc, look_locs, negR_int, noneR_none, pick_tt, pick_tf, pick_ft, pick_ff, pickO_t, pickO_f, pickB_t, t_bool, b_add, b_sub, c_lt, c_eqI, c_eqS, c_neS, List.getElem?_cons_zero, List.getElem?_cons_succ, List.set_cons_zero, List.set_cons_succ, Bool.not_true, Bool.not_false, decide_true, decide_false, c2, c4, b_fdiv _ _ q512, b_mod _ _ p8, decide_eq_true h, int_bool, ift, if_true, b_mul _ _ (m2l _), h3, finR_ret, exit_d]
  · obtain ⟨ws, h1, h2, h3⟩ := call_words (cellV l 2) (5 + 2 * 0) (by omega) 0 []
    refine ⟨ws, ⟨by rw [h1]; decide, by rw [h1]; decide, h2⟩, fun d σ => ?_⟩
    have c2 : callF prog (d + 2) i_law_cell [.d (.list (l.map .int)), .d (.int 2)] σ = .ok (.d (.int (cellV l 2))) σ := cell_at (d + 1) l σ 2 2 rfl
    have c4 : callF prog (d + 2) i_law_cell [.d (.list (l.map .int)), .d (.int (2 + 2))] σ = .ok (.d (.int (cellV l 4))) σ := cell_at (d + 1) l σ 4 (2 + 2) rfl
    rw [callF_is (fn := f_law_variables) rfl (d + 2) _ _ rfl]
    show (execs prog.G (callF prog (d + 2)) b_law_variables [.d (.list (l.map .int)), .d (.int 2)] σ).bind (finR σ.length) = _
    unfold b_law_variables
    simp only [rb_ok, lift_some, o_map, eE_none, eE_bool, eE_int, eE_str, eE_var, eE_glob, eE_bin, eE_neg, eE_not, eE_bop, eB_one, eB_more, eE_cmp, eE_cmp2, eE_ite, eE_tup, eE_list, eE_dict0, eE_dict1, eE_idx, eE_slc, eE_call, eE_bi, eE_meth, eE_freeze, eL_nil, eL_cons, eO_no, eO_yes, eI_seq, eI_range, x_expr, x_asg, x_ite, x_ret, x_pass, x_put, x_for, xs_nil, xs_cons, stepO_next, stepO_ret, look_d, look_loc, look_locs, negR_int, noneR_none, pick_tt, pick_tf, pick_ft, pick_ff, pickO_t, pickO_f, pickB_t, t_bool, b_add, b_sub, c_lt, c_eqI, c_eqS, c_neS, List.getElem?_cons_zero, List.getElem?_cons_succ, List.set_cons_zero, List.set_cons_succ, Bool.not_true, Bool.not_false, decide_true, decide_false, c2, c4, b_fdiv _ _ q512, b_mod _ _ p8, decide_eq_false h, int_bool, iff', b_mul _ _ (m2l _), h3, finR_ret, exit_d]

/-! looped -/
theorem idx_last (a : List PyData) (x : PyData) (σ : Store) : idxV (.d (.tuple (a ++ [x]))) (.d (.int (-1))) σ = some (.d x) := by
  rw [idx_tup]
  have : index (a ++ [x]).length (-1) = some a.length := by
    unfold index
    rw [if_neg (by decide), if_pos (by simp; omega)]
    congr 1; simp only [List.length_append, List.length_singleton]; omega
  rw [this]
  show ((a ++ [x])[a.length]?).map V.d = _
  simp
theorem slice_last {α : Type} (a : List α) (x : α) : sliceL (a ++ [x]) none (some (-1)) = a := by
  unfold sliceL clip
  simp only [Option.map_none, Option.map_some, Option.getD_none, Option.getD_some, List.drop_zero, Nat.sub_zero]
  have : (max 0 (min (if (-1 : Int) < 0 then -1 + ((a ++ [x]).length : Int) else -1) ((a ++ [x]).length : Int))).toNat = a.length := by
    rw [if_pos (by decide)]; simp only [List.length_append, List.length_singleton]; omega
  rw [this]
  exact List.take_left' rfl
theorem asgT_ok {G : Nat → Option PyData} {cf : Nat → List V → Store → Res V} {ρ : Fm} {σ σ₁ : Store} {l : List Nat} {e : E} {ds : List PyData} (h : evalE G cf e ρ σ = .ok (.d (.tuple ds)) σ₁) (hl : l.length = ds.length) : exec G cf (.asgT l e) ρ σ = .ok (.next (setAll l ds ρ)) σ₁ := by
  rw [x_asgT, h, rb_ok]; exact if_pos hl
noncomputable def wrap : Nat → List Nat → RL → RL
  | _, [], b => b
  | n, k :: ks, b => wrap n ks (.cons (.whn (.num (1 + (k : Int))) b) .nil)
noncomputable def loopedBody : SL := .cons (.asg (.var 4) (.tup (.cons (.tup (.cons (.str s_when) (.cons (.tup (.cons (.str s_num) (.cons (.bin .add false (.int 1) (.var 6)) (.nil)))) (.cons (.var 4) (.nil))))) (.nil)))) (
      .nil)
theorem wrap_loop (cf : Nat → List V → Store → Res V) (v0 v1 v2 v3 v5 : V) (σ : Store) : ∀ (ks : List Nat) (b : RL) (v : V), ∃ v', loopL (loopF' prog.G cf 6 loopedBody) (ks.map fun (k : Nat) => PyData.int (0 + (k : Int))) [v0, v1, v2, v3, .d (.tuple (toRL b)), v5, v] σ = .ok (.next [v0, v1, v2, v3, .d (.tuple (toRL (wrap 0 ks b))), v5, v']) σ
  | [], b, v => ⟨v, by rw [List.map_nil, lo_nil]; rfl⟩
  | k :: ks, b, v => by
    obtain ⟨v', ih⟩ := wrap_loop cf v0 v1 v2 v3 v5 σ ks (.cons (.whn (.num (1 + (k : Int))) b) .nil) (.d (.int (0 + (k : Int))))
    refine ⟨v', ?_⟩
    have body : loopF' prog.G cf 6 loopedBody (.int (0 + (k : Int))) [v0, v1, v2, v3, .d (.tuple (toRL b)), v5, v] σ = .ok (.next [v0, v1, v2, v3, .d (.tuple (toRL (.cons (.whn (.num (1 + (k : Int))) b) .nil))), v5, .d (.int (0 + (k : Int)))]) σ := by
      show execs prog.G cf loopedBody [v0, v1, v2, v3, .d (.tuple (toRL b)), v5, .d (.int (0 + (k : Int)))] σ = _
      rw [Int.zero_add]
      unfold loopedBody
      simp only [rb_ok, lift_some, o_map, eE_none, eE_bool, eE_int, eE_str, eE_var, eE_glob, eE_bin, eE_neg, eE_not, eE_bop, eB_one, eB_more, eE_cmp, eE_cmp2, eE_ite, eE_tup, eE_list, eE_dict0, eE_dict1, eE_idx, eE_slc, eE_call, eE_bi, eE_meth, eE_freeze, eL_nil, eL_cons, eO_no, eO_yes, eI_seq, eI_range, x_expr, x_asg, x_ite, x_ret, x_pass, x_put, x_for, xs_nil, xs_cons, stepO_next, stepO_ret, look_d, look_loc, look_locs, negR_int, noneR_none, pick_tt, pick_tf, pick_ft, pick_ff, pickO_t, pickO_f, pickB_t, t_bool, b_add, b_sub, c_lt, c_eqI, c_eqS, c_neS, List.getElem?_cons_zero, List.getElem?_cons_succ, List.set_cons_zero, List.set_cons_succ, Bool.not_true, Bool.not_false, decide_true, decide_false, dispT_two, dispT_three, dispT_one]
      rfl
    rw [List.map_cons, lo_cons, body, rb_ok, nextO_next, ih]; rfl
theorem wrap_ok {ws : List Str} : ∀ (ks : List Nat) (b : RL), okL ws b → okL ws (wrap 0 ks b) ∧ hL (wrap 0 ks b) = hL b + ks.length ∧ nL (wrap 0 ks b) = nL b + ks.length
  | [], b, h => ⟨h, rfl, rfl⟩
  | k :: ks, b, h => by
    have h0 : okL ws (.cons (.whn (.num (1 + (k : Int))) b) .nil) := ⟨⟨⟨(fun x hx => by simp [nms] at hx), by simp [ht], by simp [leaves]⟩, h⟩, trivial⟩
    obtain ⟨h1, h2, h3⟩ := wrap_ok ks _ h0
    have e2 : hL (.cons (.whn (.num (1 + (k : Int))) b) .nil) = hL b + 1 := Nat.max_eq_left (Nat.zero_le _)
    have e3 : nL (.cons (.whn (.num (1 + (k : Int))) b) .nil) = nL b + 1 := rfl
    refine ⟨h1, ?_, ?_⟩
    · show hL (wrap 0 ks _) = _
      rw [h2, e2, List.length_cons]; omega
    · show nL (wrap 0 ks _) = _
      rw [h3, e3, List.length_cons]; omega
theorem q4 : (0 : Int) < 4 ∧ (4 : Int) < 9223372036854775808 := by decide
theorem lnil (b : RL) : (toRL b).isEmpty = true ∨ (toRL b).isEmpty = false := by cases (toRL b).isEmpty <;> simp
theorem call_looped {ws : List Str} {fs : List Fd} {f : Fd} (hok : ∀ g ∈ fs, okF ws g) (hf : okG ws f) (hl : fs.length ≤ 100) (c : Int) (d : Nat) (σ : Store) : ∃ f', okF ws f' ∧ callF prog (d + 1) i_law_looped [.d (.tuple ((fs ++ [f]).map toF)), .d (.int c)] σ = .ok (.d (.tuple ((fs ++ [f']).map toF))) σ := by
  have em : (fs ++ [f]).map toF = fs.map toF ++ [toF f] := by rw [List.map_append]; rfl
  rw [callF_is (fn := f_law_looped) rfl d _ _ rfl]
  show ∃ f', _ ∧ (execs prog.G (callF prog d) (.cons (.ite (.bop false (.cons (.cmp .eq (.bin .mod false (.var 1) (.int 2)) (.int 0)) (.cons (.cmp .eq (.idx (.idx (.var 0) (.neg (.int 1))) (.int 2)) (.tup (.nil))) (.nil))))
    (.cons (.ret (.var 0)) (
    .nil))
    (.nil)) (
  .cons (.asgT [2, 3, 4, 5] (.idx (.var 0) (.neg (.int 1)))) (
  .cons (.ite (.cmp .eq (.bin .mod false (.bin .fdiv false (.var 1) (.int 4)) (.int 4)) (.int 1))
    (.cons (.forr (.var 6) (.range (.int 6)) loopedBody) (
    .nil))
    (.nil)) (
  .cons (.ret (.bin .add false (.slc false (.var 0) .no (.yes (.neg (.int 1)))) (.tup (.cons (.tup (.cons (.var 2) (.cons (.var 3) (.cons (.tup (.cons (.tup (.cons (.str s_again) (.cons (.bin .add false (.int 2) (.bin .mod false (.bin .fdiv false (.var 1) (.int 2)) (.int 2))) (.cons (.var 4) (.nil))))) (.nil))) (.cons (.var 5) (.nil)))))) (.nil))))) (
  .nil)))))
    [.d (.tuple ((fs ++ [f]).map toF)), .d (.int c), .un, .un, .un, .un, .un] σ).bind (finR σ.length) = _
  have cnd : ∀ ρ : Fm, ρ[0]? = some (.d (.tuple (fs.map toF ++ [toF f]))) → ρ[1]? = some (.d (.int c)) → evalE prog.G (callF prog d) (.bop false (.cons (.cmp .eq (.bin .mod false (.var 1) (.int 2)) (.int 0)) (.cons (.cmp .eq (.idx (.idx (.var 0) (.neg (.int 1))) (.int 2)) (.tup (.nil))) (.nil)))) ρ σ = .ok (.d (.bool (decide (c % 2 = 0) || (toRL f.rs).isEmpty))) σ := by
    intro ρ h0 h1
    refine or2 ?_ ?_
    · simp only [rb_ok, lift_some, o_map, eE_none, eE_bool, eE_int, eE_str, eE_var, eE_glob, eE_bin, eE_neg, eE_not, eE_bop, eB_one, eB_more, eE_cmp, eE_cmp2, eE_ite, eE_tup, eE_list, eE_dict0, eE_dict1, eE_idx, eE_slc, eE_call, eE_bi, eE_meth, eE_freeze, eL_nil, eL_cons, eO_no, eO_yes, eI_seq, eI_range, x_expr, x_asg, x_ite, x_ret, x_pass, x_put, x_for, xs_nil, xs_cons, stepO_next, stepO_ret, look_d, look_loc, look_locs, negR_int, noneR_none, pick_tt, pick_tf, pick_ft, pick_ff, pickO_t, pickO_f, pickB_t, t_bool, b_add, b_sub, c_lt, c_eqI, c_eqS, c_neS, List.getElem?_cons_zero, List.getElem?_cons_succ, List.set_cons_zero, List.set_cons_succ, Bool.not_true, Bool.not_false, decide_true, decide_false, h1, b_mod _ _ p2]
    · simp only [rb_ok, lift_some, o_map, eE_none, eE_bool, eE_int, eE_str, eE_var, eE_glob, eE_bin, eE_neg, eE_not, eE_bop, eB_one, eB_more, eE_cmp, eE_cmp2, eE_ite, eE_tup, eE_list, eE_dict0, eE_dict1, eE_idx, eE_slc, eE_call, eE_bi, eE_meth, eE_freeze, eL_nil, eL_cons, eO_no, eO_yes, eI_seq, eI_range, x_expr, x_asg, x_ite, x_ret, x_pass, x_put, x_for, xs_nil, xs_cons, stepO_next, stepO_ret, look_d, look_loc, look_locs, negR_int, noneR_none, pick_tt, pick_tf, pick_ft, pick_ff, pickO_t, pickO_f, pickB_t, t_bool, b_add, b_sub, c_lt, c_eqI, c_eqS, c_neS, List.getElem?_cons_zero, List.getElem?_cons_succ, List.set_cons_zero, List.set_cons_succ, Bool.not_true, Bool.not_false, decide_true, decide_false, h0, idx_last, tf_2, dispT_nil, c_eq, eq_nilT]
  rw [em]
  have cnd := cnd [.d (.tuple (fs.map toF ++ [toF f])), .d (.int c), .un, .un, .un, .un, .un] rfl rfl
  cases h1 : (decide (c % 2 = 0) || (toRL f.rs).isEmpty) with
  | true =>
    rw [h1] at cnd
    refine ⟨f, hf.1, ?_⟩
    simp only [rb_ok, lift_some, o_map, eE_none, eE_bool, eE_int, eE_str, eE_var, eE_glob, eE_bin, eE_neg, eE_not, eE_cmp, eE_cmp2, eE_ite, eE_tup, eE_list, eE_dict0, eE_dict1, eE_idx, eE_slc, eE_call, eE_bi, eE_meth, eE_freeze, eL_nil, eL_cons, eO_no, eO_yes, eI_seq, eI_range, x_expr, x_asg, x_ite, x_ret, x_pass, x_put, x_for, xs_nil, xs_cons, stepO_next, stepO_ret, look_d, look_loc, look_locs, negR_int, noneR_none, pick_tt, pick_tf, pick_ft, pick_ff, pickO_t, pickO_f, pickB_t, t_bool, b_add, b_sub, c_lt, c_eqI, c_eqS, c_neS, List.getElem?_cons_zero, List.getElem?_cons_succ, List.set_cons_zero, List.set_cons_succ, Bool.not_true, Bool.not_false, decide_true, decide_false, cnd, finR_ret, exit_d, em]
  | false =>
    rw [h1] at cnd
    have ta : exec prog.G (callF prog d) (.asgT [2, 3, 4, 5] (.idx (.var 0) (.neg (.int 1)))) [.d (.tuple (fs.map toF ++ [toF f])), .d (.int c), .un, .un, .un, .un, .un] σ = .ok (.next [.d (.tuple (fs.map toF ++ [toF f])), .d (.int c), .d (.str f.nm), .d (.tuple (f.ps.map .str)), .d (.tuple (toRL f.rs)), .d (toD f.t), .un]) σ := by
      refine (asgT_ok (ds := [.str f.nm, .tuple (f.ps.map .str), .tuple (toRL f.rs), toD f.t]) ?_ rfl).trans rfl
      simp only [rb_ok, lift_some, o_map, eE_none, eE_bool, eE_int, eE_str, eE_var, eE_glob, eE_bin, eE_neg, eE_not, eE_bop, eB_one, eB_more, eE_cmp, eE_cmp2, eE_ite, eE_tup, eE_list, eE_dict0, eE_dict1, eE_idx, eE_slc, eE_call, eE_bi, eE_meth, eE_freeze, eL_nil, eL_cons, eO_no, eO_yes, eI_seq, eI_range, x_expr, x_asg, x_ite, x_ret, x_pass, x_put, x_for, xs_nil, xs_cons, stepO_next, stepO_ret, look_d, look_loc, look_locs, negR_int, noneR_none, pick_tt, pick_tf, pick_ft, pick_ff, pickO_t, pickO_f, pickB_t, t_bool, b_add, b_sub, c_lt, c_eqI, c_eqS, c_neS, List.getElem?_cons_zero, List.getElem?_cons_succ, List.set_cons_zero, List.set_cons_succ, Bool.not_true, Bool.not_false, decide_true, decide_false, idx_last]; rfl
    have hlen : ∀ x : PyData, (fs.map toF).length + List.length [x] ≤ LIM := fun x => by rw [List.length_map, List.length_singleton]; unfold LIM; omega
    by_cases h2 : c / 4 % 4 = 1
    · obtain ⟨v', lp⟩ := wrap_loop (callF prog d) (.d (.tuple (fs.map toF ++ [toF f]))) (.d (.int c)) (.d (.str f.nm)) (.d (.tuple (f.ps.map .str))) (.d (toD f.t)) σ (List.range 6) f.rs .un
      obtain ⟨w1, w2, w3⟩ := wrap_ok (ws := ws) (List.range 6) f.rs hf.1.2.2.1
      have r6 : rangeL 0 6 = (List.range 6).map fun (k : Nat) => PyData.int (0 + (k : Int)) := rfl
      rw [← r6] at lp
      refine ⟨⟨f.nm, f.ps, .cons (.aga (2 + c / 2 % 2) (wrap 0 (List.range 6) f.rs)) .nil, f.t⟩, ⟨hf.1.1, hf.1.2.1, ⟨w1, trivial⟩, ?_, ?_, hf.1.2.2.2.2.2⟩, ?_⟩
      · show max (hL (wrap 0 (List.range 6) f.rs) + 1) 0 ≤ 9
        have := hf.2.1; rw [w2, List.length_range]; omega
      · show (nL (wrap 0 (List.range 6) f.rs) + 1) + 0 ≤ 400
        have := hf.2.2; rw [w3, List.length_range]; omega
      · simp only [rb_ok, lift_some, o_map, eE_none, eE_bool, eE_int, eE_str, eE_var, eE_glob, eE_bin, eE_neg, eE_not, eE_cmp, eE_cmp2, eE_ite, eE_tup, eE_list, eE_dict0, eE_dict1, eE_idx, eE_slc, eE_call, eE_bi, eE_meth, eE_freeze, eL_nil, eL_cons, eO_no, eO_yes, eI_seq, eI_range, x_expr, x_asg, x_ite, x_ret, x_pass, x_put, x_for, xs_nil, xs_cons, stepO_next, stepO_ret, look_d, look_loc, look_locs, negR_int, noneR_none, pick_tt, pick_tf, pick_ft, pick_ff, pickO_t, pickO_f, pickB_t, t_bool, b_add, b_sub, c_lt, c_eqI, c_eqS, c_neS, List.getElem?_cons_zero, List.getElem?_cons_succ, List.set_cons_zero, List.set_cons_succ, Bool.not_true, Bool.not_false, decide_true, decide_false, cnd, ta, b_fdiv _ _ q4, b_mod _ _ p4, decide_eq_true h2, rangeR_int _ (by decide : (-100000 : Int) ≤ 6 ∧ (6 : Int) ≤ 100000), lock_none, unlock_none, lp, slc_tup _ _ oi_none (oi_int _), slice_last, b_fdiv _ _ q2, b_mod _ _ p2, dispT_three, dispT_one, dispT_four, b_addT (hlen _), finR_ret, exit_d]
        rw [List.map_append]; rfl
    · refine ⟨⟨f.nm, f.ps, .cons (.aga (2 + c / 2 % 2) f.rs) .nil, f.t⟩, ⟨hf.1.1, hf.1.2.1, ⟨hf.1.2.2.1, trivial⟩, ?_, ?_, hf.1.2.2.2.2.2⟩, ?_⟩
      · show max (hL f.rs + 1) 0 ≤ 9
        have := hf.2.1; omega
      · show (nL f.rs + 1) + 0 ≤ 400
        have := hf.2.2; omega
      · simp only [rb_ok, lift_some, o_map, eE_none, eE_bool, eE_int, eE_str, eE_var, eE_glob, eE_bin, eE_neg, eE_not, eE_cmp, eE_cmp2, eE_ite, eE_tup, eE_list, eE_dict0, eE_dict1, eE_idx, eE_slc, eE_call, eE_bi, eE_meth, eE_freeze, eL_nil, eL_cons, eO_no, eO_yes, eI_seq, eI_range, x_expr, x_asg, x_ite, x_ret, x_pass, x_put, x_for, xs_nil, xs_cons, stepO_next, stepO_ret, look_d, look_loc, look_locs, negR_int, noneR_none, pick_tt, pick_tf, pick_ft, pick_ff, pickO_t, pickO_f, pickB_t, t_bool, b_add, b_sub, c_lt, c_eqI, c_eqS, c_neS, List.getElem?_cons_zero, List.getElem?_cons_succ, List.set_cons_zero, List.set_cons_succ, Bool.not_true, Bool.not_false, decide_true, decide_false, cnd, ta, b_fdiv _ _ q4, b_mod _ _ p4, decide_eq_false h2, slc_tup _ _ oi_none (oi_int _), slice_last, b_fdiv _ _ q2, b_mod _ _ p2, dispT_three, dispT_one, dispT_four, b_addT (hlen _), finR_ret, exit_d]
        rw [List.map_append]; rfl
end Mine.L03

set_option autoImplicit false
set_option linter.unusedVariables false
set_option linter.unusedSimpArgs false
namespace Mine.L03
open PySem Mine

/-! the program -/
noncomputable def progBody : SL := .cons (.asg (.var 7) (.call i_law_function (.cons (.call i_law_cell (.cons (.var 0) (.cons (.bin .add false (.bin .add false (.var 1) (.int 3)) (.var 6)) (.nil)))) (.cons (.idx (.var 3) (.var 6)) (.cons (.var 2) (.cons (.bi .list false (.cons (.slc false (.var 4) .no (.yes (.int 3))) (.nil))) (.nil))))))) (
    .cons (.ite (.bop true (.cons (.cmp .eq (.var 6) (.int 0)) (.cons (.cmp .eq (.bin .mod false (.bin .fdiv false (.call i_law_cell (.cons (.var 0) (.cons (.bin .add false (.var 1) (.int 2)) (.nil)))) (.int 4096)) (.int 8)) (.int 1)) (.nil))))
      (.cons (.asg (.var 7) (.tup (.cons (.idx (.var 3) (.int 0)) (.cons (.tup (.nil)) (.cons (.tup (.nil)) (.cons (.idx (.var 7) (.int 3)) (.nil))))))) (
      .nil))
      (.nil)) (
    .cons (.asg (.var 4) (.bin .add false (.var 4) (.tup (.cons (.var 7) (.nil))))) (
    .nil)))
theorem q4096 : (0 : Int) < 4096 ∧ (4096 : Int) < 9223372036854775808 := by decide
theorem q64 : (0 : Int) < 64 ∧ (64 : Int) < 9223372036854775808 := by decide
theorem prog_step {ws nmsL : List Str} (hw : 0 < ws.length) (hn : nmsL.length = 8) (l : List Int) {fs : List Fd} (hok : ∀ f ∈ fs, okG ws f) (hl : fs.length ≤ 50) (k : Nat) (hk : k < 8) (d : Nat) (v5 v6 v7 : V) (σ : Store) :
    ∃ f v7', okG ws f ∧ loopF' prog.G (callF prog (d + 16)) 6 progBody (.int (0 + (k : Int))) [.d (.list (l.map .int)), .d (.int 2), .d (.list (ws.map .str)), .d (.list (nmsL.map .str)), .d (.tuple (fs.map toF)), v5, v6, v7] σ =
      .ok (.next [.d (.list (l.map .int)), .d (.int 2), .d (.list (ws.map .str)), .d (.list (nmsL.map .str)), .d (.tuple ((fs ++ [f]).map toF)), v5, .d (.int (k : Int)), v7']) σ := by
  obtain ⟨nm, _, inm⟩ := word_at (ws := nmsL) (i := (k : Int)) (by omega) (by omega) σ
  obtain ⟨nm0, _, inm0⟩ := word_at (ws := nmsL) (i := 0) (by omega) (by omega) σ
  have ck : callF prog (d + 16) i_law_cell [.d (.list (l.map .int)), .d (.int (2 + 3 + (k : Int)))] σ = .ok (.d (.int (cellV l (5 + k)))) σ := cell_at (d + 15) l σ (5 + k) _ (by omega)
  have c4 : callF prog (d + 16) i_law_cell [.d (.list (l.map .int)), .d (.int (2 + 2))] σ = .ok (.d (.int (cellV l 4))) σ := cell_at (d + 15) l σ 4 _ rfl
  obtain ⟨f, hf, ef⟩ := call_function hw (fs := sliceL fs none (some 3)) (fun f hf => (hok f (slice_mem hf)).1) (cellV l (5 + k)) nm d σ
  have hlen : ∀ x : PyData, (fs.map toF).length + List.length [x] ≤ LIM := fun x => by rw [List.length_map, List.length_singleton]; unfold LIM; omega
  have cnd : ∀ v7, evalE prog.G (callF prog (d + 16)) (.bop true (.cons (.cmp .eq (.var 6) (.int 0)) (.cons (.cmp .eq (.bin .mod false (.bin .fdiv false (.call i_law_cell (.cons (.var 0) (.cons (.bin .add false (.var 1) (.int 2)) (.nil)))) (.int 4096)) (.int 8)) (.int 1)) (.nil)))) [.d (.list (l.map .int)), .d (.int 2), .d (.list (ws.map .str)), .d (.list (nmsL.map .str)), .d (.tuple (fs.map toF)), v5, .d (.int (k : Int)), v7] σ = .ok (.d (.bool (decide ((k : Int) = 0) && decide (cellV l 4 / 4096 % 8 = 1)))) σ := fun v7 =>
    and2 (by simp only [rb_ok, lift_some, o_map, eE_none, eE_bool, eE_int, eE_str, eE_var, eE_glob, eE_bin, eE_neg, eE_not, eE_bop, eB_one, eB_more, eE_cmp, eE_cmp2, eE_ite, eE_tup, eE_list, eE_dict0, eE_dict1, eE_idx, eE_slc, eE_call, eE_bi, eE_meth, eE_freeze, eL_nil, eL_cons, eO_no, eO_yes, eI_seq, eI_range, x_expr, x_asg, x_ite, x_ret, x_pass, x_put, x_for, xs_nil, xs_cons, stepO_next, stepO_ret, look_d, look_loc, look_locs, negR_int, noneR_none, pick_tt, pick_tf, pick_ft, pick_ff, pickO_t, pickO_f, pickB_t, t_bool, b_add, b_sub, c_lt, c_eqI, c_eqS, c_neS, List.getElem?_cons_zero, List.getElem?_cons_succ, List.set_cons_zero, List.set_cons_succ, Bool.not_true, Bool.not_false, decide_true, decide_false]) (by simp only [rb_ok, lift_some, o_map, eE_none, eE_bool, eE_int, eE_str, eE_var, eE_glob, eE_bin, eE_neg, eE_not, eE_bop, eB_one, eB_more, eE_cmp, eE_cmp2, eE_ite, eE_tup, eE_list, eE_dict0, eE_dict1, eE_idx, eE_slc, eE_call, eE_bi, eE_meth, eE_freeze, eL_nil, eL_cons, eO_no, eO_yes, eI_seq, eI_range, x_expr, x_asg, x_ite, x_ret, x_pass, x_put, x_for, xs_nil, xs_cons, stepO_next, stepO_ret, look_d, look_loc, look_locs, negR_int, noneR_none, pick_tt, pick_tf, pick_ft, pick_ff, pickO_t, pickO_f, pickB_t, t_bool, b_add, b_sub, c_lt, c_eqI, c_eqS, c_neS, List.getElem?_cons_zero, List.getElem?_cons_succ, List.set_cons_zero, List.set_cons_succ, Bool.not_true, Bool.not_false, decide_true, decide_false, c4, b_fdiv _ _ q4096, b_mod _ _ p8])
  rw [Int.zero_add]
  cases h : (decide ((k : Int) = 0) && decide (cellV l 4 / 4096 % 8 = 1)) with
  | true =>
    refine ⟨⟨nm0, [], .nil, f.t⟩, .d (toF ⟨nm0, [], .nil, f.t⟩), ⟨⟨(fun x hx => by cases hx), by simp, trivial, by simp [hL], by simp [nL], hf.1.2.2.2.2.2⟩, by simp [hL], by simp [nL]⟩, ?_⟩
    show execs prog.G (callF prog (d + 16)) progBody [.d (.list (l.map .int)), .d (.int 2), .d (.list (ws.map .str)), .d (.list (nmsL.map .str)), .d (.tuple (fs.map toF)), v5, .d (.int (k : Int)), v7] σ = _
    unfold progBody
    simp only [rb_ok, lift_some, o_map, eE_none, eE_bool, eE_int, eE_str, eE_var, eE_glob, eE_bin, eE_neg, eE_not, eE_cmp, eE_cmp2, eE_ite, eE_tup, eE_list, eE_dict0, eE_dict1, eE_idx, eE_slc, eE_call, eE_bi, eE_meth, eE_freeze, eL_nil, eL_cons, eO_no, eO_yes, eI_seq, eI_range, x_expr, x_asg, x_ite, x_ret, x_pass, x_put, x_for, xs_nil, xs_cons, stepO_next, stepO_ret, look_d, look_loc, look_locs, negR_int, noneR_none, pick_tt, pick_tf, pick_ft, pick_ff, pickO_t, pickO_f, pickB_t, t_bool, b_add, b_sub, c_lt, c_eqI, c_eqS, c_neS, List.getElem?_cons_zero, List.getElem?_cons_succ, List.set_cons_zero, List.set_cons_succ, Bool.not_true, Bool.not_false, decide_true, decide_false, ck, inm, slc_tup _ _ oi_none (oi_int _), list_tup, mkL_f, slice_map, ef, cnd, h, inm0, dispT_nil, tf_3, dispT_four, dispT_one, b_addT (hlen _)]
    rw [List.map_append]; rfl
  | false =>
    refine ⟨f, .d (toF f), hf, ?_⟩
    show execs prog.G (callF prog (d + 16)) progBody [.d (.list (l.map .int)), .d (.int 2), .d (.list (ws.map .str)), .d (.list (nmsL.map .str)), .d (.tuple (fs.map toF)), v5, .d (.int (k : Int)), v7] σ = _
    unfold progBody
    simp only [rb_ok, lift_some, o_map, eE_none, eE_bool, eE_int, eE_str, eE_var, eE_glob, eE_bin, eE_neg, eE_not, eE_cmp, eE_cmp2, eE_ite, eE_tup, eE_list, eE_dict0, eE_dict1, eE_idx, eE_slc, eE_call, eE_bi, eE_meth, eE_freeze, eL_nil, eL_cons, eO_no, eO_yes, eI_seq, eI_range, x_expr, x_asg, x_ite, x_ret, x_pass, x_put, x_for, xs_nil, xs_cons, stepO_next, stepO_ret, look_d, look_loc, look_locs, negR_int, noneR_none, pick_tt, pick_tf, pick_ft, pick_ff, pickO_t, pickO_f, pickB_t, t_bool, b_add, b_sub, c_lt, c_eqI, c_eqS, c_neS, List.getElem?_cons_zero, List.getElem?_cons_succ, List.set_cons_zero, List.set_cons_succ, Bool.not_true, Bool.not_false, decide_true, decide_false, ck, inm, slc_tup _ _ oi_none (oi_int _), list_tup, mkL_f, slice_map, ef, cnd, h, dispT_one, b_addT (hlen _)]
    rw [List.map_append]; rfl
theorem prog_loop {ws nmsL : List Str} (hw : 0 < ws.length) (hn : nmsL.length = 8) (l : List Int) (d : Nat) (v5 : V) (σ : Store) : ∀ (ks : List Nat) (fs : List Fd) (v6 v7 : V), (∀ k ∈ ks, k < 8) → (∀ f ∈ fs, okG ws f) → fs.length + ks.length ≤ 50 →
    ∃ (fs' : List Fd) (v6' v7' : V), (∀ f ∈ fs', okG ws f) ∧ fs'.length = fs.length + ks.length ∧ loopL (loopF' prog.G (callF prog (d + 16)) 6 progBody) (ks.map fun (k : Nat) => PyData.int (0 + (k : Int))) [.d (.list (l.map .int)), .d (.int 2), .d (.list (ws.map .str)), .d (.list (nmsL.map .str)), .d (.tuple (fs.map toF)), v5, v6, v7] σ =
      .ok (.next [.d (.list (l.map .int)), .d (.int 2), .d (.list (ws.map .str)), .d (.list (nmsL.map .str)), .d (.tuple (fs'.map toF)), v5, v6', v7']) σ
  | [], fs, v6, v7, _, hok, _ => ⟨fs, v6, v7, hok, rfl, by rw [List.map_nil, lo_nil]⟩
  | k :: ks, fs, v6, v7, hk, hok, hl => by
    rw [List.length_cons] at hl
    obtain ⟨f, v7₁, hf, e⟩ := prog_step hw hn l hok (by omega) k (hk k (List.mem_cons_self ..)) d v5 v6 v7 σ
    obtain ⟨fs', v6', v7', h1, h2, h3⟩ := prog_loop hw hn l d v5 σ ks (fs ++ [f]) (.d (.int (k : Int))) v7₁ (fun x hx => hk x (List.mem_cons_of_mem _ hx)) (fun g hg => (List.mem_append.mp hg).elim (hok g) fun h => by rw [List.mem_singleton.mp h]; exact hf) (by rw [List.length_append, List.length_singleton]; omega)
    refine ⟨fs', v6', v7', h1, by rw [h2, List.length_append, List.length_singleton, List.length_cons]; omega, ?_⟩
    rw [List.map_cons, lo_cons, e, rb_ok, nextO_next, h3]
theorem call_program (l : List Int) {ws : List Str} (hw : 0 < ws.length) (hv : ∀ (d : Nat) (σ : Store), callF prog (d + 3) i_law_variables [.d (.list (l.map .int)), .d (.int 2)] σ = .ok (.d (.list (ws.map .str))) σ) (d : Nat) (σ : Store) :
    ∃ fs : List Fd, (0 < fs.length ∧ fs.length ≤ 8 ∧ ∀ f ∈ fs, okF ws f) ∧ callF prog (d + 17) i_law_program [.d (.list (l.map .int)), .d (.int 2)] σ = .ok (.d (.tuple (fs.map toF))) σ := by
  have hv : callF prog (d + 16) i_law_variables [.d (.list (l.map .int)), .d (.int 2)] σ = .ok (.d (.list (ws.map .str))) σ := hv (d + 13) σ
  have c3 : callF prog (d + 16) i_law_cell [.d (.list (l.map .int)), .d (.int (2 + 1))] σ = .ok (.d (.int (cellV l 3))) σ := cell_at (d + 15) l σ 3 _ rfl
  have c4 : callF prog (d + 16) i_law_cell [.d (.list (l.map .int)), .d (.int (2 + 2))] σ = .ok (.d (.int (cellV l 4))) σ := cell_at (d + 15) l σ 4 _ rfl
  have cn : ∃ nmsL : List Str, nmsL.length = 8 ∧ evalE prog.G (callF prog (d + 16)) (.call i_law_words (.cons (.call i_law_cell (.cons (.var 0) (.cons (.bin .sub false (.bin .add false (.var 1) (.int 1)) (.bi .int false (.cons (.cmp .eq (.bin .mod false (.call i_law_cell (.cons (.var 0) (.cons (.bin .add false (.var 1) (.int 1)) (.nil)))) (.int 8)) (.int 3)) (.nil)))) (.nil)))) (.cons (.int 8) (.nil)))) [.d (.list (l.map .int)), .d (.int 2), .d (.list (ws.map .str)), .un, .un, .un, .un, .un] σ = .ok (.d (.list (nmsL.map .str))) σ := by
    by_cases h : cellV l 3 % 8 = 3
    · obtain ⟨nm, h1, _, h3⟩ := call_words (cellV l 2) 8 (by omega) 0 []
      have h3 : callF prog (d + 16) i_law_words [.d (.int (cellV l 2)), .d (.int 8)] σ = .ok (.d (.list (nm.map .str))) σ := h3 (d + 15) σ
      have c2 : callF prog (d + 16) i_law_cell [.d (.list (l.map .int)), .d (.int (2 + 1 - 1))] σ = .ok (.d (.int (cellV l 2))) σ := cell_at (d + 15) l σ 2 _ rfl
      refine ⟨nm, h1, ?_⟩
      simp only [rb_ok, lift_some, o_map, eE_none, eE_bool, eE_int, eE_str, eE_var, eE_glob, eE_bin, eE_neg, eE_not, eE_bop, eB_one, eB_more, eE_cmp, eE_cmp2, eE_ite, eE_tup, eE_list, eE_dict0, eE_dict1, eE_idx, eE_slc, eE_call, eE_bi, eE_meth, eE_freeze, eL_nil, eL_cons, eO_no, eO_yes, eI_seq, eI_range, x_expr, x_asg, x_ite, x_ret, x_pass, x_put, x_for, xs_nil, xs_cons, stepO_next, stepO_ret, look_d, look_loc, look_locs, negR_int, noneR_none, pick_tt, pick_tf, pick_ft, pick_ff, pickO_t, pickO_f, pickB_t, t_bool, b_add, b_sub, c_lt, c_eqI, c_eqS, c_neS, List.getElem?_cons_zero, List.getElem?_cons_succ, List.set_cons_zero, List.set_cons_succ, Bool.not_true, Bool.not_false, decide_true, decide_false, c3, b_mod _ _ p8, decide_eq_true h, int_bool, ift, if_true, c2, h3]
    · obtain ⟨nm, h1, _, h3⟩ := call_words (cellV l 3) 8 (by omega) 0 []
      have h3 : callF prog (d + 16) i_law_words [.d (.int (cellV l 3)), .d (.int 8)] σ = .ok (.d (.list (nm.map .str))) σ := h3 (d + 15) σ
      have c2 : callF prog (d + 16) i_law_cell [.d (.list (l.map .int)), .d (.int (2 + 1 - 0))] σ = .ok (.d (.int (cellV l 3))) σ := cell_at (d + 15) l σ 3 _ rfl
      refine ⟨nm, h1, ?_⟩
      simp only [rb_ok, lift_some, o_map, eE_none, eE_bool, eE_int, eE_str, eE_var, eE_glob, eE_bin, eE_neg, eE_not, eE_bop, eB_one, eB_more, eE_cmp, eE_cmp2, eE_ite, eE_tup, eE_list, eE_dict0, eE_dict1, eE_idx, eE_slc, eE_call, eE_bi, eE_meth, eE_freeze, eL_nil, eL_cons, eO_no, eO_yes, eI_seq, eI_range, x_expr, x_asg, x_ite, x_ret, x_pass, x_put, x_for, xs_nil, xs_cons, stepO_next, stepO_ret, look_d, look_loc, look_locs, negR_int, noneR_none, pick_tt, pick_tf, pick_ft, pick_ff, pickO_t, pickO_f, pickB_t, t_bool, b_add, b_sub, c_lt, c_eqI, c_eqS, c_neS, List.getElem?_cons_zero, List.getElem?_cons_succ, List.set_cons_zero, List.set_cons_succ, Bool.not_true, Bool.not_false, decide_true, decide_false, c3, b_mod _ _ p8, decide_eq_false h, int_bool, iff', c2, h3]
  obtain ⟨nmsL, hn, cn⟩ := cn
  have fin : ∀ n : Nat, 1 ≤ n → n ≤ 8 → ∀ v5 : V, ∃ (fs : List Fd) (v6' v7' : V), (0 < fs.length ∧ fs.length ≤ 8 ∧ ∀ f ∈ fs, okF ws f) ∧ ∃ g, okG ws g ∧ ∃ hs : List Fd, (∀ f ∈ hs, okF ws f) ∧ hs.length ≤ 8 ∧ loopL (loopF' prog.G (callF prog (d + 16)) 6 progBody) ((List.range n).map fun (k : Nat) => PyData.int (0 + (k : Int))) [.d (.list (l.map .int)), .d (.int 2), .d (.list (ws.map .str)), .d (.list (nmsL.map .str)), .d (.tuple []), v5, .un, .un] σ =
      .ok (.next [.d (.list (l.map .int)), .d (.int 2), .d (.list (ws.map .str)), .d (.list (nmsL.map .str)), .d (.tuple ((hs ++ [g]).map toF)), v5, v6', v7']) σ ∧ callF prog (d + 16) i_law_looped [.d (.tuple ((hs ++ [g]).map toF)), .d (.int (cellV l 4 / 4))] σ = .ok (.d (.tuple (fs.map toF))) σ := by
    intro n h1 h8 v5
    obtain ⟨fs', v6', v7', a1, a2, a3⟩ := prog_loop hw hn l d v5 σ (List.range n) [] .un .un (fun k hk => by have := List.mem_range.mp hk; omega) (fun f hf => by cases hf) (by rw [List.length_range]; simp; omega)
    rw [List.length_range, List.length_nil, Nat.zero_add] at a2
    have hne : fs' ≠ [] := fun h => by rw [h] at a2; simp at a2; omega
    obtain ⟨hs, g, rfl⟩ : ∃ hs g, fs' = hs ++ [g] := ⟨fs'.dropLast, fs'.getLast hne, (List.dropLast_concat_getLast hne).symm⟩
    rw [List.length_append, List.length_singleton] at a2
    have hs1 : ∀ f ∈ hs, okF ws f := fun f hf => (a1 f (List.mem_append_left _ hf)).1
    obtain ⟨f', hf', ef⟩ := call_looped hs1 (a1 g (List.mem_append_right _ (List.mem_singleton.mpr rfl))) (by omega) (cellV l 4 / 4) (d + 15) σ
    refine ⟨hs ++ [f'], v6', v7', ⟨by simp, by rw [List.length_append, List.length_singleton]; omega, fun f hf => (List.mem_append.mp hf).elim (hs1 f) fun h => by rw [List.mem_singleton.mp h]; exact hf'⟩, g, a1 g (List.mem_append_right _ (List.mem_singleton.mpr rfl)), hs, hs1, by omega, a3, ef⟩
  have bm := emod_range (cellV l 4 + 2) p4
  have s1 : exec prog.G (callF prog (d + 16)) (.asg (.var 2) (.call i_law_variables (.cons (.var 0) (.cons (.var 1) (.nil))))) [.d (.list (l.map .int)), .d (.int 2), .un, .un, .un, .un, .un, .un] σ = .ok (.next [.d (.list (l.map .int)), .d (.int 2), .d (.list (ws.map .str)), .un, .un, .un, .un, .un]) σ := by
    simp only [rb_ok, lift_some, o_map, eE_none, eE_bool, eE_int, eE_str, eE_var, eE_glob, eE_bin, eE_neg, eE_not, eE_bop, eB_one, eB_more, eE_cmp, eE_cmp2, eE_ite, eE_tup, eE_list, eE_dict0, eE_dict1, eE_idx, eE_slc, eE_call, eE_bi, eE_meth, eE_freeze, eL_nil, eL_cons, eO_no, eO_yes, eI_seq, eI_range, x_expr, x_asg, x_ite, x_ret, x_pass, x_put, x_for, xs_nil, xs_cons, stepO_next, stepO_ret, look_d, look_loc, look_locs, negR_int, noneR_none, pick_tt, pick_tf, pick_ft, pick_ff, pickO_t, pickO_f, pickB_t, t_bool, b_add, b_sub, c_lt, c_eqI, c_eqS, c_neS, List.getElem?_cons_zero, List.getElem?_cons_succ, List.set_cons_zero, List.set_cons_succ, Bool.not_true, Bool.not_false, decide_true, decide_false, hv]
  have s2 : exec prog.G (callF prog (d + 16)) (.asg (.var 3) (.call i_law_words (.cons (.call i_law_cell (.cons (.var 0) (.cons (.bin .sub false (.bin .add false (.var 1) (.int 1)) (.bi .int false (.cons (.cmp .eq (.bin .mod false (.call i_law_cell (.cons (.var 0) (.cons (.bin .add false (.var 1) (.int 1)) (.nil)))) (.int 8)) (.int 3)) (.nil)))) (.nil)))) (.cons (.int 8) (.nil))))) [.d (.list (l.map .int)), .d (.int 2), .d (.list (ws.map .str)), .un, .un, .un, .un, .un] σ = .ok (.next [.d (.list (l.map .int)), .d (.int 2), .d (.list (ws.map .str)), .d (.list (nmsL.map .str)), .un, .un, .un, .un]) σ := by
    rw [x_asg, cn, rb_ok]; rfl
  have s3 : exec prog.G (callF prog (d + 16)) (.asg (.var 4) (.tup (.nil))) [.d (.list (l.map .int)), .d (.int 2), .d (.list (ws.map .str)), .d (.list (nmsL.map .str)), .un, .un, .un, .un] σ = .ok (.next [.d (.list (l.map .int)), .d (.int 2), .d (.list (ws.map .str)), .d (.list (nmsL.map .str)), .d (.tuple []), .un, .un, .un]) σ := by
    simp only [rb_ok, lift_some, o_map, eE_none, eE_bool, eE_int, eE_str, eE_var, eE_glob, eE_bin, eE_neg, eE_not, eE_bop, eB_one, eB_more, eE_cmp, eE_cmp2, eE_ite, eE_tup, eE_list, eE_dict0, eE_dict1, eE_idx, eE_slc, eE_call, eE_bi, eE_meth, eE_freeze, eL_nil, eL_cons, eO_no, eO_yes, eI_seq, eI_range, x_expr, x_asg, x_ite, x_ret, x_pass, x_put, x_for, xs_nil, xs_cons, stepO_next, stepO_ret, look_d, look_loc, look_locs, negR_int, noneR_none, pick_tt, pick_tf, pick_ft, pick_ff, pickO_t, pickO_f, pickB_t, t_bool, b_add, b_sub, c_lt, c_eqI, c_eqS, c_neS, List.getElem?_cons_zero, List.getElem?_cons_succ, List.set_cons_zero, List.set_cons_succ, Bool.not_true, Bool.not_false, decide_true, decide_false, dispT_nil]
  have s4 : exec prog.G (callF prog (d + 16)) (.asg (.var 5) (.bin .add false (.int 1) (.bin .mod false (.bin .add false (.call i_law_cell (.cons (.var 0) (.cons (.bin .add false (.var 1) (.int 2)) (.nil)))) (.int 2)) (.int 4)))) [.d (.list (l.map .int)), .d (.int 2), .d (.list (ws.map .str)), .d (.list (nmsL.map .str)), .d (.tuple []), .un, .un, .un] σ = .ok (.next [.d (.list (l.map .int)), .d (.int 2), .d (.list (ws.map .str)), .d (.list (nmsL.map .str)), .d (.tuple []), .d (.int (1 + (cellV l 4 + 2) % 4)), .un, .un]) σ := by
    simp only [rb_ok, lift_some, o_map, eE_none, eE_bool, eE_int, eE_str, eE_var, eE_glob, eE_bin, eE_neg, eE_not, eE_bop, eB_one, eB_more, eE_cmp, eE_cmp2, eE_ite, eE_tup, eE_list, eE_dict0, eE_dict1, eE_idx, eE_slc, eE_call, eE_bi, eE_meth, eE_freeze, eL_nil, eL_cons, eO_no, eO_yes, eI_seq, eI_range, x_expr, x_asg, x_ite, x_ret, x_pass, x_put, x_for, xs_nil, xs_cons, stepO_next, stepO_ret, look_d, look_loc, look_locs, negR_int, noneR_none, pick_tt, pick_tf, pick_ft, pick_ff, pickO_t, pickO_f, pickB_t, t_bool, b_add, b_sub, c_lt, c_eqI, c_eqS, c_neS, List.getElem?_cons_zero, List.getElem?_cons_succ, List.set_cons_zero, List.set_cons_succ, Bool.not_true, Bool.not_false, decide_true, decide_false, c4, b_mod _ _ p4]
  obtain ⟨n, M, hn1, hn8, hM, s5⟩ : ∃ (n : Nat) (M : Int), 1 ≤ n ∧ n ≤ 8 ∧ M = (n : Int) ∧ exec prog.G (callF prog (d + 16)) (.ite (.cmp .eq (.bin .mod false (.bin .fdiv false (.call i_law_cell (.cons (.var 0) (.cons (.bin .add false (.var 1) (.int 2)) (.nil)))) (.int 64)) (.int 8)) (.int 1))
    (.cons (.asg (.var 5) (.bin .add false (.var 5) (.int 4))) (
    .nil))
    (.nil)) [.d (.list (l.map .int)), .d (.int 2), .d (.list (ws.map .str)), .d (.list (nmsL.map .str)), .d (.tuple []), .d (.int (1 + (cellV l 4 + 2) % 4)), .un, .un] σ = .ok (.next [.d (.list (l.map .int)), .d (.int 2), .d (.list (ws.map .str)), .d (.list (nmsL.map .str)), .d (.tuple []), .d (.int M), .un, .un]) σ := by
    by_cases h : cellV l 4 / 64 % 8 = 1
    · exact ⟨((1 + (cellV l 4 + 2) % 4) + 4).toNat, (1 + (cellV l 4 + 2) % 4) + 4, by omega, by omega, by omega, (ite_t (σ' := σ) (by simp only [rb_ok, lift_some, o_map, eE_none, eE_bool, eE_int, eE_str, eE_var, eE_glob, eE_bin, eE_neg, eE_not, eE_bop, eB_one, eB_more, eE_cmp, eE_cmp2, eE_ite, eE_tup, eE_list, eE_dict0, eE_dict1, eE_idx, eE_slc, eE_call, eE_bi, eE_meth, eE_freeze, eL_nil, eL_cons, eO_no, eO_yes, eI_seq, eI_range, x_expr, x_asg, x_ite, x_ret, x_pass, x_put, x_for, xs_nil, xs_cons, stepO_next, stepO_ret, look_d, look_loc, look_locs, negR_int, noneR_none, pick_tt, pick_tf, pick_ft, pick_ff, pickO_t, pickO_f, pickB_t, t_bool, b_add, b_sub, c_lt, c_eqI, c_eqS, c_neS, List.getElem?_cons_zero, List.getElem?_cons_succ, List.set_cons_zero, List.set_cons_succ, Bool.not_true, Bool.not_false, decide_true, decide_false, c4, b_fdiv _ _ q64, b_mod _ _ p8, decide_eq_true h])).trans (by simp only [rb_ok, lift_some, o_map, eE_none, eE_bool, eE_int, eE_str, eE_var, eE_glob, eE_bin, eE_neg, eE_not, eE_bop, eB_one, eB_more, eE_cmp, eE_cmp2, eE_ite, eE_tup, eE_list, eE_dict0, eE_dict1, eE_idx, eE_slc, eE_call, eE_bi, eE_meth, eE_freeze, eL_nil, eL_cons, eO_no, eO_yes, eI_seq, eI_range, x_expr, x_asg, x_ite, x_ret, x_pass, x_put, x_for, xs_nil, xs_cons, stepO_next, stepO_ret, look_d, look_loc, look_locs, negR_int, noneR_none, pick_tt, pick_tf, pick_ft, pick_ff, pickO_t, pickO_f, pickB_t, t_bool, b_add, b_sub, c_lt, c_eqI, c_eqS, c_neS, List.getElem?_cons_zero, List.getElem?_cons_succ, List.set_cons_zero, List.set_cons_succ, Bool.not_true, Bool.not_false, decide_true, decide_false])⟩
    · exact ⟨(1 + (cellV l 4 + 2) % 4).toNat, (1 + (cellV l 4 + 2) % 4), by omega, by omega, by omega, (ite_f (σ' := σ) (by simp only [rb_ok, lift_some, o_map, eE_none, eE_bool, eE_int, eE_str, eE_var, eE_glob, eE_bin, eE_neg, eE_not, eE_bop, eB_one, eB_more, eE_cmp, eE_cmp2, eE_ite, eE_tup, eE_list, eE_dict0, eE_dict1, eE_idx, eE_slc, eE_call, eE_bi, eE_meth, eE_freeze, eL_nil, eL_cons, eO_no, eO_yes, eI_seq, eI_range, x_expr, x_asg, x_ite, x_ret, x_pass, x_put, x_for, xs_nil, xs_cons, stepO_next, stepO_ret, look_d, look_loc, look_locs, negR_int, noneR_none, pick_tt, pick_tf, pick_ft, pick_ff, pickO_t, pickO_f, pickB_t, t_bool, b_add, b_sub, c_lt, c_eqI, c_eqS, c_neS, List.getElem?_cons_zero, List.getElem?_cons_succ, List.set_cons_zero, List.set_cons_succ, Bool.not_true, Bool.not_false, decide_true, decide_false, c4, b_fdiv _ _ q64, b_mod _ _ p8, decide_eq_false h])).trans (xs_nil ..)⟩
  obtain ⟨fs, v6', v7', h1, g, hg, hs, hh, hh8, lp, lo⟩ := fin n hn1 hn8 (.d (.int M))
  have rg : rangeL 0 M = (List.range n).map fun (k : Nat) => PyData.int (0 + (k : Int)) := by subst hM; unfold rangeL; rw [Int.sub_zero, Int.toNat_natCast]
  rw [← rg] at lp
  have s6 : exec prog.G (callF prog (d + 16)) (.forr (.var 6) (.range (.var 5)) progBody) [.d (.list (l.map .int)), .d (.int 2), .d (.list (ws.map .str)), .d (.list (nmsL.map .str)), .d (.tuple []), .d (.int M), .un, .un] σ = .ok (.next [.d (.list (l.map .int)), .d (.int 2), .d (.list (ws.map .str)), .d (.list (nmsL.map .str)), .d (.tuple ((hs ++ [g]).map toF)), .d (.int M), v6', v7']) σ := by
    simp only [rb_ok, lift_some, o_map, eE_none, eE_bool, eE_int, eE_str, eE_var, eE_glob, eE_bin, eE_neg, eE_not, eE_bop, eB_one, eB_more, eE_cmp, eE_cmp2, eE_ite, eE_tup, eE_list, eE_dict0, eE_dict1, eE_idx, eE_slc, eE_call, eE_bi, eE_meth, eE_freeze, eL_nil, eL_cons, eO_no, eO_yes, eI_seq, eI_range, x_expr, x_asg, x_ite, x_ret, x_pass, x_put, x_for, xs_nil, xs_cons, stepO_next, stepO_ret, look_d, look_loc, look_locs, negR_int, noneR_none, pick_tt, pick_tf, pick_ft, pick_ff, pickO_t, pickO_f, pickB_t, t_bool, b_add, b_sub, c_lt, c_eqI, c_eqS, c_neS, List.getElem?_cons_zero, List.getElem?_cons_succ, List.set_cons_zero, List.set_cons_succ, Bool.not_true, Bool.not_false, decide_true, decide_false, rangeR_int _ (by omega : (-100000 : Int) ≤ M ∧ M ≤ 100000), lock_none, unlock_none, lp]
  have s7 : exec prog.G (callF prog (d + 16)) (.ret (.call i_law_looped (.cons (.var 4) (.cons (.bin .fdiv false (.call i_law_cell (.cons (.var 0) (.cons (.bin .add false (.var 1) (.int 2)) (.nil)))) (.int 4)) (.nil))))) [.d (.list (l.map .int)), .d (.int 2), .d (.list (ws.map .str)), .d (.list (nmsL.map .str)), .d (.tuple ((hs ++ [g]).map toF)), .d (.int M), v6', v7'] σ = .ok (.ret (.d (.tuple (fs.map toF)))) σ := by
    simp only [rb_ok, lift_some, o_map, eE_none, eE_bool, eE_int, eE_str, eE_var, eE_glob, eE_bin, eE_neg, eE_not, eE_bop, eB_one, eB_more, eE_cmp, eE_cmp2, eE_ite, eE_tup, eE_list, eE_dict0, eE_dict1, eE_idx, eE_slc, eE_call, eE_bi, eE_meth, eE_freeze, eL_nil, eL_cons, eO_no, eO_yes, eI_seq, eI_range, x_expr, x_asg, x_ite, x_ret, x_pass, x_put, x_for, xs_nil, xs_cons, stepO_next, stepO_ret, look_d, look_loc, look_locs, negR_int, noneR_none, pick_tt, pick_tf, pick_ft, pick_ff, pickO_t, pickO_f, pickB_t, t_bool, b_add, b_sub, c_lt, c_eqI, c_eqS, c_neS, List.getElem?_cons_zero, List.getElem?_cons_succ, List.set_cons_zero, List.set_cons_succ, Bool.not_true, Bool.not_false, decide_true, decide_false, c4, b_fdiv _ _ q4, lo]
  refine ⟨fs, h1, ?_⟩
  have run : execs prog.G (callF prog (d + 16)) b_law_program [.d (.list (l.map .int)), .d (.int 2), .un, .un, .un, .un, .un, .un] σ = .ok (.ret (.d (.tuple (fs.map toF)))) σ := (seq_next s1).trans ((seq_next s2).trans ((seq_next s3).trans ((seq_next s4).trans ((seq_next s5).trans ((seq_next s6).trans (seq_ret s7))))))
  rw [callF_is (fn := f_law_program) rfl (d + 16) _ _ rfl]
  show (execs prog.G (callF prog (d + 16)) b_law_program [.d (.list (l.map .int)), .d (.int 2), .un, .un, .un, .un, .un, .un] σ).bind (finR σ.length) = _
  rw [run, rb_ok, finR_ret, exit_d]
end Mine.L03

set_option autoImplicit false
set_option linter.unusedVariables false
set_option linter.unusedSimpArgs false
namespace Mine.L03
open PySem Mine

theorem e_set_tell : decide (s_set = s_tell) = false := by decide
theorem e_set_when : decide (s_set = s_when) = false := by decide
theorem e_set_call : decide (s_set = s_call) = false := by decide
theorem e_set_again : decide (s_set = s_again) = false := by decide
theorem e_tell_set : decide (s_tell = s_set) = false := by decide
theorem e_tell_when : decide (s_tell = s_when) = false := by decide
theorem e_tell_call : decide (s_tell = s_call) = false := by decide
theorem e_tell_again : decide (s_tell = s_again) = false := by decide
theorem e_when_set : decide (s_when = s_set) = false := by decide
theorem e_when_tell : decide (s_when = s_tell) = false := by decide
theorem e_when_call : decide (s_when = s_call) = false := by decide
theorem e_when_again : decide (s_when = s_again) = false := by decide
theorem e_call_set : decide (s_call = s_set) = false := by decide
theorem e_call_tell : decide (s_call = s_tell) = false := by decide
theorem e_call_when : decide (s_call = s_when) = false := by decide
theorem e_call_again : decide (s_call = s_again) = false := by decide
theorem e_again_set : decide (s_again = s_set) = false := by decide
theorem e_again_tell : decide (s_again = s_tell) = false := by decide
theorem e_again_when : decide (s_again = s_when) = false := by decide
theorem e_again_call : decide (s_again = s_call) = false := by decide
noncomputable def lst : RL → List Rw
  | .nil => []
  | .cons r b => r :: lst b
theorem toRL_lst : ∀ b : RL, toRL b = (lst b).map toR
  | .nil => rfl
  | .cons r b => congrArg (toR r :: ·) (toRL_lst b)
theorem okL_lst {ws : List Str} : ∀ {b : RL}, okL ws b → ∀ r ∈ lst b, okR ws r
  | .nil, _, r, hr => by cases hr
  | .cons r' b, h, r, hr => by
    rcases List.mem_cons.mp hr with rfl | hr
    · exact h.1
    · exact okL_lst h.2 r hr
theorem hL_lst : ∀ {b : RL} {r : Rw}, r ∈ lst b → hR r ≤ hL b
  | .nil, r, hr => by cases hr
  | .cons r' b, r, hr => by
    rcases List.mem_cons.mp hr with rfl | hr
    · exact Nat.le_max_left ..
    · exact Nat.le_trans (hL_lst hr) (Nat.le_max_right ..)
noncomputable def blk : Rw → RL
  | .whn _ b => b
  | .aga _ b => b
  | _ => .nil
theorem blk_ok {ws : List Str} {r : Rw} (h : okR ws r) : okL ws (blk r) := by
  cases r with
  | whn t b => exact h.2
  | aga n b => exact h
  | _ => exact trivial
theorem blk_n (r : Rw) : nL (blk r) + 1 = nR r := by cases r <;> rfl
theorem blk_h (r : Rw) : hL (blk r) ≤ hR r := by
  cases r with
  | whn t b => exact Nat.le_succ _
  | aga n b => exact Nat.le_succ _
  | _ => exact Nat.le_refl _
theorem nL_lst : ∀ b : RL, nL b = ((lst b).map nR).sum
  | .nil => rfl
  | .cons r b => congrArg (nR r + ·) (nL_lst b)
noncomputable def tag : Rw → Str
  | .set _ _ => s_set
  | .tell _ => s_tell
  | .call _ _ _ => s_call
  | .whn _ _ => s_when
  | .aga _ _ => s_again
theorem tag_idx (r : Rw) (σ : Store) : idxV (.d (toR r)) (.d (.int 0)) σ = some (.d (.str (tag r))) := by cases r <;> exact idx_tupN _ _ 0
theorem tag_eq {cf : Nat → List V → Store → Res V} {ρ : Fm} {σ : Store} {j : Nat} {r : Rw} (s : Str) (h : ρ[j]? = some (.d (toR r))) : evalE prog.G cf (.cmp .eq (.idx (.var j) (.int 0)) (.str s)) ρ σ = .ok (.d (.bool (decide (tag r = s)))) σ := by
  rw [eE_cmp, eE_idx, eE_var, h, look_d, rb_ok, eE_int, rb_ok, tag_idx, lift_some, rb_ok, eE_str, rb_ok, c_eqS, o_map, lift_some]
theorem ev_b {cf : Nat → List V → Store → Res V} {e : E} {ρ : Fm} {σ : Store} {b b' : Bool} (h : evalE prog.G cf e ρ σ = .ok (.d (.bool b)) σ) (q : b = b') : evalE prog.G cf e ρ σ = .ok (.d (.bool b')) σ := q ▸ h
theorem e_self (s : Str) : decide (s = s) = true := decide_eq_true rfl
theorem or_ff {a b : Bool} (h : a = false) (k : b = false) : (a || b) = false := by rw [h, k]; rfl
theorem or_t1 {a b : Bool} (h : a = true) : (a || b) = true := by rw [h]; rfl
theorem or_t2 {a b : Bool} (h : b = true) : (a || b) = true := by rw [h, Bool.or_true]
noncomputable def isB : Rw → Bool
  | .whn _ _ => true
  | .aga _ _ => true
  | _ => false
noncomputable def isG : Rw → Bool
  | .set _ _ => true
  | .call _ _ _ => true
  | _ => false
theorem isB_eq (r : Rw) : (decide (tag r = s_when) || decide (tag r = s_again)) = isB r := by
  cases r with
  | set x t => exact or_ff e_set_when e_set_again
  | tell t => exact or_ff e_tell_when e_tell_again
  | call o f ts => exact or_ff e_call_when e_call_again
  | whn t b => exact or_t1 (e_self _)
  | aga n b => exact or_t2 (e_self _)
theorem isG_eq (r : Rw) : (decide (tag r = s_set) || decide (tag r = s_call)) = isG r := by
  cases r with
  | set x t => exact or_t1 (e_self _)
  | tell t => exact or_ff e_tell_set e_tell_call
  | call o f ts => exact or_t2 (e_self _)
  | whn t b => exact or_ff e_when_set e_when_call
  | aga n b => exact or_ff e_again_set e_again_call
theorem fin_of {p : Prog} {cf : Nat → List V → Store → Res V} {b : SL} {ρ : Fm} {σ : Store} {x : PyData} (h : execs p.G cf b ρ σ = .ok (.ret (.d x)) σ) : (execs p.G cf b ρ σ).bind (finR σ.length) = .ok (.d x) σ := by
  rw [h, rb_ok, finR_ret, exit_d]
/-- two ways out -/
theorem two_ways {cf : Nat → List V → Store → Res V} {c e₁ e₂ : E} {ρ : Fm} {σ : Store} {t : Bool} {x y : PyData} (hc : evalE prog.G cf c ρ σ = .ok (.d (.bool t)) σ) (h1 : t = true → evalE prog.G cf e₁ ρ σ = .ok (.d x) σ) (h2 : evalE prog.G cf e₂ ρ σ = .ok (.d y) σ) :
    (execs prog.G cf (.cons (.ite c (.cons (.ret e₁) .nil) .nil) (.cons (.ret e₂) .nil)) ρ σ).bind (finR σ.length) = .ok (.d (if t then x else y)) σ := by
  cases t with
  | true => exact fin_of (seq_ret ((ite_t hc).trans (seq_ret (by rw [x_ret, h1 rfl, rb_ok]; rfl))))
  | false => exact fin_of ((seq_next ((ite_f hc).trans (xs_nil ..))).trans (seq_ret (by rw [x_ret, h2, rb_ok]; rfl)))
theorem row_2 (r : Rw) (h : isB r = true) (σ : Store) : idxV (.d (toR r)) (.d (.int 2)) σ = some (.d (.tuple (toRL (blk r)))) := by
  cases r with
  | whn t b => exact i3_2 ..
  | aga n b => exact i3_2 ..
  | _ => cases h
theorem call_block (r : Rw) (d : Nat) (σ : Store) : callF prog (d + 1) i_law_block [.d (toR r)] σ = .ok (.d (.tuple (toRL (blk r)))) σ := by
  rw [callF_is (fn := f_law_block) rfl d _ _ rfl]
  refine (two_ways (t := isB r) (x := .tuple (toRL (blk r))) (y := .tuple []) ((or2 (tag_eq s_when rfl) (tag_eq s_again rfl)).trans (by rw [isB_eq])) (fun h => ?_) ?_).trans ?_
  · rw [eE_idx, eE_var]
    show (look (some (.d (toR r))) σ).bind _ = _
    rw [look_d, rb_ok, eE_int, rb_ok, row_2 r h, lift_some]
  · rw [eE_tup, eL_nil, rb_ok, dispT_nil]
  · cases r <;> rfl

/-! places -/
noncomputable def pairD (p : PyData × Rw) : PyData := .tuple [p.1, toR p.2]
noncomputable def placesBody : SL := .cons (.expr (.meth .append (.var 2) (.cons (.tup (.cons (.bin .add false (.var 0) (.tup (.cons (.var 3) (.nil)))) (.cons (.idx (.var 1) (.var 3)) (.nil)))) (.nil)))) (
    .cons (.asg (.var 2) (.bin .add true (.var 2) (.call i_law_places (.cons (.bin .add false (.var 0) (.tup (.cons (.var 3) (.nil)))) (.cons (.call i_law_block (.cons (.idx (.var 1) (.var 3)) (.nil))) (.nil)))))) (
    .nil))
theorem b_addB {σ : Store} {n : Nat} {x : List PyData} (h : σ[n]? = some (.lst x)) (y : List PyData) (m : Bool) (hl : x.length + y.length ≤ LIM) : binV .add m (.loc n) (.d (.list y)) σ = mkList m (x ++ y) σ := by
  show b2 (listOf σ (.loc n)) (some y) (fun x y => if x.length + y.length ≤ LIM then mkList m (x ++ y) σ else .bad) .bad = _
  rw [listOf_loc h]; exact if_pos hl
theorem app_new {σ : Store} {l : List PyData} (hl : l.length < LIM) (x : PyData) : meV .append (.loc σ.length) [.d x] (σ ++ [.lst l]) = .ok (.d .none) (σ ++ [.lst (l ++ [x])]) := by
  rw [app_ok (snoc_get _ _) hl, snoc_set]
theorem places_step {pl rows : List PyData} {r : Rw} {k : Nat} (hk : rows[k]? = some (toR r)) (hpl : pl.length ≤ 200) (d : Nat) {M : List (PyData × Rw)} (L : List (PyData × Rw)) (hL : L.length + M.length ≤ 5000) (v3 : V) (σ : Store) (H : callF prog (d + 1) i_law_places [.d (.tuple (pl ++ [.int (k : Int)])), .d (.tuple (toRL (blk r)))] (σ ++ [.lst (L.map pairD ++ [.tuple [.tuple (pl ++ [.int (k : Int)]), toR r]])]) = .ok (.d (.list (M.map pairD))) (σ ++ [.lst (L.map pairD ++ [.tuple [.tuple (pl ++ [.int (k : Int)]), toR r]])])) :
    loopF' prog.G (callF prog (d + 1)) 3 placesBody (.int (0 + (k : Int))) [.d (.tuple pl), .d (.tuple rows), .loc σ.length, v3] (σ ++ [.lst (L.map pairD)]) =
      .ok (.next [.d (.tuple pl), .d (.tuple rows), .loc (σ.length + 1), .d (.int (k : Int))]) (σ ++ [.lst ((L ++ [(PyData.tuple (pl ++ [.int (k : Int)]), r)]).map pairD)] ++ [.lst ((L ++ [(PyData.tuple (pl ++ [.int (k : Int)]), r)] ++ M).map pairD)]) := by
  rw [Int.zero_add]
  show execs prog.G (callF prog (d + 1)) placesBody [.d (.tuple pl), .d (.tuple rows), .loc σ.length, .d (.int (k : Int))] (σ ++ [.lst (L.map pairD)]) = _
  have e1 : ∀ σ', binV .add false (.d (.tuple pl)) (.d (.tuple [.int (k : Int)])) σ' = .ok (.d (.tuple (pl ++ [.int (k : Int)]))) σ' := fun σ' => b_addT (by simp [LIM]; omega) false σ'
  have e2 : ∀ σ', idxV (.d (.tuple rows)) (.d (.int (k : Int))) σ' = some (.d (toR r)) := fun σ' => by rw [idx_tupN, hk]; rfl
  have hl1 : (L.map pairD).length < LIM := by rw [List.length_map]; unfold LIM; omega
  have e3 := fun σ' => call_block r d σ'
  have hl2 : (L.map pairD ++ [PyData.tuple [.tuple (pl ++ [.int (k : Int)]), toR r]]).length + (M.map pairD).length ≤ LIM := by
    rw [List.length_append, List.length_map, List.length_map, List.length_singleton]; unfold LIM; omega
  unfold placesBody
  simp only [rb_ok, lift_some, o_map, eE_none, eE_bool, eE_int, eE_str, eE_var, eE_glob, eE_bin, eE_neg, eE_not, eE_bop, eB_one, eB_more, eE_cmp, eE_cmp2, eE_ite, eE_tup, eE_list, eE_dict0, eE_dict1, eE_idx, eE_slc, eE_call, eE_bi, eE_meth, eE_freeze, eL_nil, eL_cons, eO_no, eO_yes, eI_seq, eI_range, x_expr, x_asg, x_ite, x_ret, x_pass, x_put, x_for, xs_nil, xs_cons, stepO_next, stepO_ret, look_d, look_loc, look_locs, negR_int, noneR_none, pick_tt, pick_tf, pick_ft, pick_ff, pickO_t, pickO_f, pickB_t, t_bool, b_add, b_sub, c_lt, c_eqI, c_eqS, c_neS, List.getElem?_cons_zero, List.getElem?_cons_succ, List.set_cons_zero, List.set_cons_succ, Bool.not_true, Bool.not_false, decide_true, decide_false, dispT_one, e1, e2, dispT_two, meOk_app (snoc_get _ _), app_new hl1, e3, H, b_addB (snoc_get _ _) _ _ hl2, mkL_t, List.length_append, List.length_singleton]
  simp only [List.map_append, List.map_cons, List.map_nil, pairD, List.append_assoc]
theorem places_loop {ws : List Str} {b : RL} {pl : List PyData} (hpl : pl.length ≤ 200) (d : Nat) (h n : Nat)
    (H : ∀ r ∈ lst b, ∀ (k : Nat) (σ : Store), ∃ M : List (PyData × Rw), (∀ p ∈ M, okR ws p.2 ∧ hR p.2 ≤ h ∧ nR p.2 ≤ n) ∧ M.length + 1 ≤ nR r ∧ callF prog (d + 1) i_law_places [.d (.tuple (pl ++ [.int (k : Int)])), .d (.tuple (toRL (blk r)))] σ = .ok (.d (.list (M.map pairD))) σ)
    (hb : ∀ r ∈ lst b, okR ws r ∧ hR r ≤ h ∧ nR r ≤ n) : ∀ (rest : List Rw) (k : Nat), (lst b).drop k = rest → ∀ (L : List (PyData × Rw)) (v3 : V) (σ : Store), (∀ p ∈ L, okR ws p.2 ∧ hR p.2 ≤ h ∧ nR p.2 ≤ n) → L.length + (rest.map nR).sum ≤ 5000 →
    ∃ (L' : List (PyData × Rw)) (v3' : V) (σ' : Store), (∀ p ∈ L', okR ws p.2 ∧ hR p.2 ≤ h ∧ nR p.2 ≤ n) ∧ L'.length ≤ L.length + (rest.map nR).sum ∧ σ'.take σ.length = σ ∧ loopL (loopF' prog.G (callF prog (d + 1)) 3 placesBody) ((List.range' k rest.length).map fun (k : Nat) => PyData.int (0 + (k : Int))) [.d (.tuple pl), .d (.tuple (toRL b)), .loc σ.length, v3] (σ ++ [.lst (L.map pairD)]) =
      .ok (.next [.d (.tuple pl), .d (.tuple (toRL b)), .loc σ'.length, v3']) (σ' ++ [.lst (L'.map pairD)])
  | [], k, hd, L, v3, σ, hL, hs => ⟨L, v3, σ, hL, Nat.le_add_right .., List.take_length, by rw [List.length_nil]; rfl⟩
  | r :: rest, k, hd, L, v3, σ, hL, hs => by
    have hk : (lst b)[k]? = some r := by
      have := congrArg (fun l => l[0]?) hd
      simpa using this
    have hmem : r ∈ lst b := List.mem_of_getElem? hk
    have hd' : (lst b).drop (k + 1) = rest := by
      have := congrArg List.tail hd
      simpa using this
    obtain ⟨M, m1, m2, m3⟩ := H r hmem k (σ ++ [.lst (L.map pairD ++ [.tuple [.tuple (pl ++ [.int (k : Int)]), toR r]])])
    rw [List.map_cons, List.sum_cons] at hs
    have st := places_step (pl := pl) (rows := toRL b) (r := r) (k := k) (by rw [toRL_lst, List.getElem?_map, hk]; rfl) hpl d L (by omega) v3 σ m3
    obtain ⟨L', v3', σ', a1, a2, a3, a4⟩ := places_loop hpl d h n H hb rest (k + 1) hd' (L ++ [(PyData.tuple (pl ++ [.int (k : Int)]), r)] ++ M) (.d (.int (k : Int))) (σ ++ [.lst ((L ++ [(PyData.tuple (pl ++ [.int (k : Int)]), r)]).map pairD)]) (fun p hp => by
      rcases List.mem_append.mp hp with hp | hp
      · rcases List.mem_append.mp hp with hp | hp
        · exact hL p hp
        · rw [List.mem_singleton.mp hp]; exact hb r hmem
      · exact m1 p hp) (by rw [List.length_append, List.length_append, List.length_singleton]; omega)
    refine ⟨L', v3', σ', a1, ?_, ?_, ?_⟩
    · rw [List.length_append, List.length_append, List.length_singleton] at a2
      rw [List.map_cons, List.sum_cons]; omega
    · have := congrArg (List.take σ.length) a3
      rw [List.take_take, List.take_append_of_le_length (Nat.le_refl _), List.take_length, List.length_append, Nat.min_eq_left (Nat.le_add_right ..)] at this
      exact this
    · rw [List.length_cons, List.range'_succ, List.map_cons, lo_cons, st, rb_ok, nextO_next]
      rw [List.length_append, List.length_singleton] at a4
      exact a4
theorem frz_any (σ : Store) (l : List PyData) : frz (.loc σ.length) (σ ++ [.lst l]) = .ok (.d (.list l)) (σ ++ [.gone]) := frz_new σ l
theorem places_of {ws : List Str} {b : RL} {pl : List PyData} (hpl : pl.length ≤ 200) (d : Nat) {h n : Nat} (hn : nL b ≤ 5000) (hb : ∀ r ∈ lst b, okR ws r ∧ hR r ≤ h ∧ nR r ≤ n)
    (H : ∀ r ∈ lst b, ∀ (k : Nat) (σ : Store), ∃ M : List (PyData × Rw), (∀ p ∈ M, okR ws p.2 ∧ hR p.2 ≤ h ∧ nR p.2 ≤ n) ∧ M.length + 1 ≤ nR r ∧ callF prog (d + 1) i_law_places [.d (.tuple (pl ++ [.int (k : Int)])), .d (.tuple (toRL (blk r)))] σ = .ok (.d (.list (M.map pairD))) σ) :
    ∀ σ : Store, ∃ M : List (PyData × Rw), (∀ p ∈ M, okR ws p.2 ∧ hR p.2 ≤ h ∧ nR p.2 ≤ n) ∧ M.length ≤ nL b ∧ callF prog (d + 2) i_law_places [.d (.tuple pl), .d (.tuple (toRL b))] σ = .ok (.d (.list (M.map pairD))) σ := by
  intro σ
  obtain ⟨L', v3', σ', a1, a2, a3, a4⟩ := places_loop hpl d h n H hb (lst b) 0 rfl [] .un σ (fun p hp => by cases hp) (by rw [← nL_lst]; simpa using hn)
  rw [← nL_lst, List.length_nil, Nat.zero_add] at a2
  refine ⟨L', a1, a2, ?_⟩
  rw [callF_is (fn := f_law_places) rfl (d + 1) _ _ rfl]
  show (execs prog.G (callF prog (d + 1)) (.cons (.asg (.var 2) (.list true (.nil))) (
  .cons (.forr (.var 3) (.range (.bi .len false (.cons (.var 1) (.nil)))) placesBody) (
  .cons (.ret (.freeze (.var 2))) (
  .nil)))) [.d (.tuple pl), .d (.tuple (toRL b)), .un, .un] σ).bind (finR σ.length) = _
  have hlen : (toRL b).length = (lst b).length := by rw [toRL_lst, List.length_map]
  have hle : (lst b).length ≤ 5000 := by
    have : ∀ l : List Rw, l.length ≤ (l.map nR).sum := by
      intro l
      induction l with
      | nil => exact Nat.le_refl _
      | cons r l ih => rw [List.map_cons, List.sum_cons, List.length_cons]; have := blk_n r; omega
    have := this (lst b)
    rw [← nL_lst] at this; omega
  have rg : rangeL 0 ((toRL b).length : Int) = (List.range' 0 (lst b).length).map fun (k : Nat) => PyData.int (0 + (k : Int)) := by
    unfold rangeL; rw [Int.sub_zero, Int.toNat_natCast, hlen, List.range_eq_range']
  have hrl : (-100000 : Int) ≤ ((toRL b).length : Int) ∧ ((toRL b).length : Int) ≤ 100000 := by rw [hlen]; omega
  rw [← rg, List.map_nil] at a4
  simp only [rb_ok, lift_some, o_map, eE_none, eE_bool, eE_int, eE_str, eE_var, eE_glob, eE_bin, eE_neg, eE_not, eE_bop, eB_one, eB_more, eE_cmp, eE_cmp2, eE_ite, eE_tup, eE_list, eE_dict0, eE_dict1, eE_idx, eE_slc, eE_call, eE_bi, eE_meth, eE_freeze, eL_nil, eL_cons, eO_no, eO_yes, eI_seq, eI_range, x_expr, x_asg, x_ite, x_ret, x_pass, x_put, x_for, xs_nil, xs_cons, stepO_next, stepO_ret, look_d, look_loc, look_locs, negR_int, noneR_none, pick_tt, pick_tf, pick_ft, pick_ff, pickO_t, pickO_f, pickB_t, t_bool, b_add, b_sub, c_lt, c_eqI, c_eqS, c_neS, List.getElem?_cons_zero, List.getElem?_cons_succ, List.set_cons_zero, List.set_cons_succ, Bool.not_true, Bool.not_false, decide_true, decide_false, dispL_nil, mkL_t, len_tup, rangeR_int _ hrl, lock_none, unlock_none, a4, frz_new, finR_ret]
  refine exit_at _ ?_
  have : σ.length ≤ σ'.length := by
    have := congrArg List.length a3
    rw [List.length_take] at this; omega
  rw [List.take_append_of_le_length this, a3]
theorem call_places {ws : List Str} : ∀ (h : Nat) (b : RL) (pl : List PyData) (d : Nat), okL ws b → hL b ≤ h → nL b ≤ 5000 → pl.length + h ≤ 100 → ∀ σ : Store, ∃ M : List (PyData × Rw), (∀ p ∈ M, okR ws p.2 ∧ hR p.2 ≤ hL b ∧ nR p.2 ≤ nL b) ∧ M.length ≤ nL b ∧
    callF prog (d + h + 3) i_law_places [.d (.tuple pl), .d (.tuple (toRL b))] σ = .ok (.d (.list (M.map pairD))) σ := by
  have nR_le : ∀ (b : RL) (r : Rw), r ∈ lst b → nR r ≤ nL b := by
    intro b r hr
    rw [nL_lst]
    generalize lst b = l at hr
    induction l with
    | nil => cases hr
    | cons a l ih =>
      rw [List.map_cons, List.sum_cons]
      rcases List.mem_cons.mp hr with rfl | hr
      · exact Nat.le_add_right ..
      · exact Nat.le_trans (ih hr) (Nat.le_add_left ..)
  have nilc : ∀ (pl : List PyData) (d : Nat) (σ : Store), pl.length ≤ 200 → ∃ M : List (PyData × Rw), M = [] ∧ callF prog (d + 2) i_law_places [.d (.tuple pl), .d (.tuple (toRL .nil))] σ = .ok (.d (.list (M.map pairD))) σ := by
    intro pl d σ hpl
    obtain ⟨M, _, m2, m3⟩ := places_of (ws := ws) (b := .nil) hpl d (h := 0) (n := 0) (Nat.zero_le _) (fun r hr => by cases hr) (fun r hr => by cases hr) σ
    exact ⟨M, List.eq_nil_of_length_eq_zero (Nat.le_zero.mp m2), m3⟩
  intro h
  induction h with
  | zero =>
    intro b pl d ok hh hn hp σ
    refine places_of (d := d + 1) (by omega) hn (fun r hr => ⟨okL_lst ok r hr, hL_lst hr, nR_le b r hr⟩) (fun r hr k σ' => ?_) σ
    have hz : hR r = 0 := Nat.le_zero.mp (Nat.le_trans (hL_lst hr) hh)
    have hb : blk r = .nil := by
      cases r with
      | whn t b => exact absurd hz (Nat.succ_ne_zero _)
      | aga t b => exact absurd hz (Nat.succ_ne_zero _)
      | _ => rfl
    rw [hb]
    obtain ⟨M, m1, m2⟩ := nilc (pl ++ [.int (k : Int)]) d σ' (by rw [List.length_append, List.length_singleton]; omega)
    subst m1
    exact ⟨[], (fun p hp => by cases hp), by have := blk_n r; rw [List.length_nil]; omega, m2⟩
  | succ h ih =>
    intro b pl d ok hh hn hp σ
    have e : d + (h + 1) + 3 = d + h + 2 + 2 := by omega
    rw [e]
    refine places_of (d := d + h + 2) (by omega) hn (fun r hr => ⟨okL_lst ok r hr, hL_lst hr, nR_le b r hr⟩) (fun r hr k σ' => ?_) σ
    have hrn := nR_le b r hr
    have hbn := blk_n r
    have hbh : hL (blk r) ≤ h := by
      have h1 := hL_lst hr
      cases r with
      | whn t b => show hL b ≤ h; have : hL b + 1 ≤ _ := h1; omega
      | aga t b => show hL b ≤ h; have : hL b + 1 ≤ _ := h1; omega
      | _ => exact Nat.zero_le _
    obtain ⟨M, m1, m2, m3⟩ := ih (blk r) (pl ++ [.int (k : Int)]) d (blk_ok (okL_lst ok r hr)) hbh (by omega) (by rw [List.length_append, List.length_singleton]; omega) σ'
    exact ⟨M, (fun p hp => ⟨(m1 p hp).1, Nat.le_trans (m1 p hp).2.1 (Nat.le_trans (blk_h r) (hL_lst hr)), by have := (m1 p hp).2.2; omega⟩), by omega, m3⟩

/-! all places -/
noncomputable def allBody : SL := .cons (.asg (.var 1) (.bin .add false (.var 1) (.call i_law_places (.cons (.tup (.cons (.var 2) (.nil))) (.cons (.idx (.idx (.var 0) (.var 2)) (.int 2)) (.nil)))))) (
    .nil)
theorem all_loop {ws : List Str} {fs : List Fd} (hok : ∀ f ∈ fs, okF ws f) (d : Nat) (σ : Store) : ∀ (rest : List Fd) (k : Nat), fs.drop k = rest → ∀ (L : List (PyData × Rw)) (v2 : V), (∀ p ∈ L, okR ws p.2 ∧ hR p.2 ≤ 9 ∧ nR p.2 ≤ 400) → L.length + rest.length * 400 ≤ 5000 →
    ∃ (L' : List (PyData × Rw)) (v2' : V), (∀ p ∈ L', okR ws p.2 ∧ hR p.2 ≤ 9 ∧ nR p.2 ≤ 400) ∧ L'.length ≤ L.length + rest.length * 400 ∧ loopL (loopF' prog.G (callF prog (d + 12)) 2 allBody) ((List.range' k rest.length).map fun (k : Nat) => PyData.int (0 + (k : Int))) [.d (.tuple (fs.map toF)), .d (.list (L.map pairD)), v2] σ =
      .ok (.next [.d (.tuple (fs.map toF)), .d (.list (L'.map pairD)), v2']) σ
  | [], k, hd, L, v2, hL, hs => ⟨L, v2, hL, Nat.le_add_right .., by rw [List.length_nil]; rfl⟩
  | f :: rest, k, hd, L, v2, hL, hs => by
    have hk : fs[k]? = some f := by
      have := congrArg (fun l => l[0]?) hd
      simpa using this
    have hmem : f ∈ fs := List.mem_of_getElem? hk
    have hd' : fs.drop (k + 1) = rest := by
      have := congrArg List.tail hd
      simpa using this
    have of := hok f hmem
    rw [List.length_cons] at hs
    obtain ⟨M, m1, m2, m3⟩ := call_places 9 f.rs [.int (k : Int)] d of.2.2.1 of.2.2.2.1 (Nat.le_trans of.2.2.2.2.1 (by decide)) (by simp) σ
    have n4 := of.2.2.2.2.1
    have h9 := of.2.2.2.1
    obtain ⟨L', v2', a1, a2, a3⟩ := all_loop hok d σ rest (k + 1) hd' (L ++ M) (.d (.int (k : Int))) (fun p hp => by
      rcases List.mem_append.mp hp with hp | hp
      · exact hL p hp
      · have := m1 p hp; exact ⟨this.1, by omega, by omega⟩) (by rw [List.length_append]; omega)
    refine ⟨L', v2', a1, by rw [List.length_append] at a2; rw [List.length_cons]; omega, ?_⟩
    have e2 : idxV (.d (.tuple (fs.map toF))) (.d (.int (k : Int))) σ = some (.d (toF f)) := by rw [idx_tupN, List.getElem?_map, hk]; rfl
    have hl2 : (L.map pairD).length + (M.map pairD).length ≤ LIM := by rw [List.length_map, List.length_map]; unfold LIM; omega
    have body : loopF' prog.G (callF prog (d + 12)) 2 allBody (.int (0 + (k : Int))) [.d (.tuple (fs.map toF)), .d (.list (L.map pairD)), v2] σ = .ok (.next [.d (.tuple (fs.map toF)), .d (.list ((L ++ M).map pairD)), .d (.int (k : Int))]) σ := by
      rw [Int.zero_add]
      show execs prog.G (callF prog (d + 12)) allBody [.d (.tuple (fs.map toF)), .d (.list (L.map pairD)), .d (.int (k : Int))] σ = _
      unfold allBody
      simp only [rb_ok, lift_some, o_map, eE_none, eE_bool, eE_int, eE_str, eE_var, eE_glob, eE_bin, eE_neg, eE_not, eE_bop, eB_one, eB_more, eE_cmp, eE_cmp2, eE_ite, eE_tup, eE_list, eE_dict0, eE_dict1, eE_idx, eE_slc, eE_call, eE_bi, eE_meth, eE_freeze, eL_nil, eL_cons, eO_no, eO_yes, eI_seq, eI_range, x_expr, x_asg, x_ite, x_ret, x_pass, x_put, x_for, xs_nil, xs_cons, stepO_next, stepO_ret, look_d, look_loc, look_locs, negR_int, noneR_none, pick_tt, pick_tf, pick_ft, pick_ff, pickO_t, pickO_f, pickB_t, t_bool, b_add, b_sub, c_lt, c_eqI, c_eqS, c_neS, List.getElem?_cons_zero, List.getElem?_cons_succ, List.set_cons_zero, List.set_cons_succ, Bool.not_true, Bool.not_false, decide_true, decide_false, dispT_one, e2, tf_2, m3, b_addL hl2, mkL_f, List.map_append]
    rw [List.length_cons, List.range'_succ, List.map_cons, lo_cons, body, rb_ok, nextO_next]
    exact a3
theorem call_all {ws : List Str} {fs : List Fd} (hok : ∀ f ∈ fs, okF ws f) (h8 : fs.length ≤ 8) (d : Nat) (σ : Store) : ∃ L : List (PyData × Rw), (∀ p ∈ L, okR ws p.2 ∧ hR p.2 ≤ 9 ∧ nR p.2 ≤ 400) ∧ L.length ≤ 4000 ∧ callF prog (d + 13) i_law_all [.d (.tuple (fs.map toF))] σ = .ok (.d (.list (L.map pairD))) σ := by
  obtain ⟨L', v2', a1, a2, a3⟩ := all_loop hok d σ fs 0 rfl [] .un (fun p hp => by cases hp) (by rw [List.length_nil]; omega)
  rw [List.length_nil] at a2
  refine ⟨L', a1, by omega, ?_⟩
  rw [callF_is (fn := f_law_all) rfl (d + 12) _ _ rfl]
  show (execs prog.G (callF prog (d + 12)) (.cons (.asg (.var 1) (.list false (.nil))) (
  .cons (.forr (.var 2) (.range (.bi .len false (.cons (.var 0) (.nil)))) allBody) (
  .cons (.ret (.var 1)) (
  .nil)))) [.d (.tuple (fs.map toF)), .un, .un] σ).bind (finR σ.length) = _
  have rg : rangeL 0 ((fs.map toF).length : Int) = (List.range' 0 fs.length).map fun (k : Nat) => PyData.int (0 + (k : Int)) := by
    unfold rangeL; rw [Int.sub_zero, Int.toNat_natCast, List.length_map, List.range_eq_range']
  have hrl : (-100000 : Int) ≤ ((fs.map toF).length : Int) ∧ ((fs.map toF).length : Int) ≤ 100000 := by rw [List.length_map]; omega
  rw [← rg, List.map_nil] at a3
  simp only [rb_ok, lift_some, o_map, eE_none, eE_bool, eE_int, eE_str, eE_var, eE_glob, eE_bin, eE_neg, eE_not, eE_bop, eB_one, eB_more, eE_cmp, eE_cmp2, eE_ite, eE_tup, eE_list, eE_dict0, eE_dict1, eE_idx, eE_slc, eE_call, eE_bi, eE_meth, eE_freeze, eL_nil, eL_cons, eO_no, eO_yes, eI_seq, eI_range, x_expr, x_asg, x_ite, x_ret, x_pass, x_put, x_for, xs_nil, xs_cons, stepO_next, stepO_ret, look_d, look_loc, look_locs, negR_int, noneR_none, pick_tt, pick_tf, pick_ft, pick_ff, pickO_t, pickO_f, pickB_t, t_bool, b_add, b_sub, c_lt, c_eqI, c_eqS, c_neS, List.getElem?_cons_zero, List.getElem?_cons_succ, List.set_cons_zero, List.set_cons_succ, Bool.not_true, Bool.not_false, decide_true, decide_false, dispL_nil, mkL_f, len_tup, rangeR_int _ hrl, lock_none, unlock_none, a3, finR_ret, exit_d]
end Mine.L03

set_option autoImplicit false
set_option linter.unusedVariables false
set_option linter.unusedSimpArgs false
namespace Mine.L03
open PySem Mine

/-! own names, as the law reads them -/
noncomputable def termsOf : Rw → List Tm
  | .set _ t => [t]
  | .tell t => [t]
  | .call _ _ ts => ts
  | .whn t _ => [t]
  | .aga _ _ => []
noncomputable def own (r : Rw) : List Str := (termsOf r).flatMap nms
theorem terms_ok {ws : List Str} {r : Rw} (h : okR ws r) : (∀ t ∈ termsOf r, okN ws t) ∧ (termsOf r).length ≤ 4 := by
  cases r with
  | set x t => exact ⟨fun u hu => by rw [List.mem_singleton.mp hu]; exact h.2, by simp [termsOf]⟩
  | tell t => exact ⟨fun u hu => by rw [List.mem_singleton.mp hu]; exact h, by simp [termsOf]⟩
  | call o f ts => exact h.2
  | whn t b => exact ⟨fun u hu => by rw [List.mem_singleton.mp hu]; exact h.1, by simp [termsOf]⟩
  | aga n b => exact ⟨(fun u hu => by cases hu), by simp [termsOf]⟩
noncomputable def ownBody : SL := .cons (.asg (.var 2) (.bin .add false (.var 2) (.call i_law_names (.cons (.var 3) (.nil))))) (
    .nil)
theorem own_loop {ws : List Str} (d : Nat) (v0 v1 : V) (σ : Store) : ∀ (ts : List Tm) (acc : List Str) (v3 : V), (∀ t ∈ ts, okN ws t) → acc.length + ts.length * 4 ≤ 1000 → ∃ v3', loopL (loopF' prog.G (callF prog (d + 3)) 3 ownBody) (ts.map toD) [v0, v1, .d (.list (acc.map .str)), v3] σ = .ok (.next [v0, v1, .d (.list ((acc ++ ts.flatMap nms).map .str)), v3']) σ
  | [], acc, v3, _, _ => ⟨v3, by rw [List.map_nil, lo_nil, List.flatMap_nil, List.append_nil]⟩
  | t :: ts, acc, v3, h, hl => by
    have ht := h t (List.mem_cons_self ..)
    rw [List.length_cons] at hl
    have hn := nms_len t
    have h4 := ht.2.2
    have e := call_names t (d + 3) σ (by have := ht.2.1; omega) (by omega)
    obtain ⟨v3', ih⟩ := own_loop (ws := ws) d v0 v1 σ ts (acc ++ nms t) (.d (toD t)) (fun u hu => h u (List.mem_cons_of_mem _ hu)) (by rw [List.length_append]; omega)
    refine ⟨v3', ?_⟩
    have hl2 : (acc.map PyData.str).length + ((nms t).map PyData.str).length ≤ LIM := by rw [List.length_map, List.length_map]; unfold LIM; omega
    have body : loopF' prog.G (callF prog (d + 3)) 3 ownBody (toD t) [v0, v1, .d (.list (acc.map .str)), v3] σ = .ok (.next [v0, v1, .d (.list ((acc ++ nms t).map .str)), .d (toD t)]) σ := by
      show execs prog.G (callF prog (d + 3)) ownBody [v0, v1, .d (.list (acc.map .str)), .d (toD t)] σ = _
      unfold ownBody
      simp only [rb_ok, lift_some, o_map, eE_none, eE_bool, eE_int, eE_str, eE_var, eE_glob, eE_bin, eE_neg, eE_not, eE_bop, eB_one, eB_more, eE_cmp, eE_cmp2, eE_ite, eE_tup, eE_list, eE_dict0, eE_dict1, eE_idx, eE_slc, eE_call, eE_bi, eE_meth, eE_freeze, eL_nil, eL_cons, eO_no, eO_yes, eI_seq, eI_range, x_expr, x_asg, x_ite, x_ret, x_pass, x_put, x_for, xs_nil, xs_cons, stepO_next, stepO_ret, look_d, look_loc, look_locs, negR_int, noneR_none, pick_tt, pick_tf, pick_ft, pick_ff, pickO_t, pickO_f, pickB_t, t_bool, b_add, b_sub, c_lt, c_eqI, c_eqS, c_neS, List.getElem?_cons_zero, List.getElem?_cons_succ, List.set_cons_zero, List.set_cons_succ, Bool.not_true, Bool.not_false, decide_true, decide_false, e, b_addL hl2, mkL_f, List.map_append]
    rw [List.map_cons, lo_cons, body, rb_ok, nextO_next, ih, List.flatMap_cons, List.append_assoc]
theorem call_own {ws : List Str} {r : Rw} (h : okR ws r) (d : Nat) (σ : Store) : callF prog (d + 4) i_law_own [.d (toR r)] σ = .ok (.d (.list ((own r).map .str))) σ := by
  obtain ⟨t1, t2⟩ := terms_ok h
  rw [callF_is (fn := f_law_own) rfl (d + 3) _ _ rfl]
  show (execs prog.G (callF prog (d + 3)) (.cons (.ite (.cmp .eq (.idx (.var 0) (.int 0)) (.str s_again))
    (.cons (.ret (.list false (.nil))) (
    .nil))
    (.nil)) (
  .cons (.asg (.var 1) (.list false (.cons (.idx (.var 0) (.int 1)) (.nil)))) (
  .cons (.ite (.cmp .eq (.idx (.var 0) (.int 0)) (.str s_set))
    (.cons (.asg (.var 1) (.list false (.cons (.idx (.var 0) (.int 2)) (.nil)))) (
    .nil))
    (.nil)) (
  .cons (.ite (.cmp .eq (.idx (.var 0) (.int 0)) (.str s_call))
    (.cons (.asg (.var 1) (.bi .list false (.cons (.idx (.var 0) (.int 3)) (.nil)))) (
    .nil))
    (.nil)) (
  .cons (.asg (.var 2) (.list false (.nil))) (
  .cons (.forr (.var 3) (.seq (.var 1)) ownBody) (
  .cons (.ret (.var 2)) (
  .nil)))))))) [.d (toR r), .un, .un, .un] σ).bind (finR σ.length) = _
  obtain ⟨v', lp⟩ := own_loop (ws := ws) d (.d (toR r)) (.d (.list ((termsOf r).map toD))) σ (termsOf r) [] .un t1 (by rw [List.length_nil]; omega)
  simp only [List.map_nil, List.nil_append] at lp
  have tail : ∀ {x : V}, execs prog.G (callF prog (d + 3)) (.cons (.asg (.var 2) (.list false (.nil))) (
  .cons (.forr (.var 3) (.seq (.var 1)) ownBody) (
  .cons (.ret (.var 2)) (
  .nil)))) [.d (toR r), .d (.list ((termsOf r).map toD)), .un, .un] σ = .ok (.ret (.d (.list ((own r).map .str)))) σ := by
    intro x
    simp only [rb_ok, lift_some, o_map, eE_none, eE_bool, eE_int, eE_str, eE_var, eE_glob, eE_bin, eE_neg, eE_not, eE_bop, eB_one, eB_more, eE_cmp, eE_cmp2, eE_ite, eE_tup, eE_list, eE_dict0, eE_dict1, eE_idx, eE_slc, eE_call, eE_bi, eE_meth, eE_freeze, eL_nil, eL_cons, eO_no, eO_yes, eI_seq, eI_range, x_expr, x_asg, x_ite, x_ret, x_pass, x_put, x_for, xs_nil, xs_cons, stepO_next, stepO_ret, look_d, look_loc, look_locs, negR_int, noneR_none, pick_tt, pick_tf, pick_ft, pick_ff, pickO_t, pickO_f, pickB_t, t_bool, b_add, b_sub, c_lt, c_eqI, c_eqS, c_neS, List.getElem?_cons_zero, List.getElem?_cons_succ, List.set_cons_zero, List.set_cons_succ, Bool.not_true, Bool.not_false, decide_true, decide_false, dispL_nil, mkL_f, open_list, lock_none, unlock_none, lp]; rfl
  refine fin_of ?_
  have k0 := tag_eq (cf := callF prog (d + 3)) (ρ := [.d (toR r), .un, .un, .un]) (σ := σ) (j := 0) (r := r) s_again rfl
  have k1 := fun v1 => tag_eq (cf := callF prog (d + 3)) (ρ := [.d (toR r), v1, .un, .un]) (σ := σ) (j := 0) (r := r) s_set rfl
  have k2 := fun v1 => tag_eq (cf := callF prog (d + 3)) (ρ := [.d (toR r), v1, .un, .un]) (σ := σ) (j := 0) (r := r) s_call rfl
  have z0 := fun (h : decide (tag r = s_again) = false) (a r' : SL) => seq_next (r := r') ((ite_f (a := a) (b := .nil) (ev_b k0 h)).trans (xs_nil ..))
  have s1 : ∀ (x : PyData), idxV (.d (toR r)) (.d (.int 1)) σ = some (.d x) → exec prog.G (callF prog (d + 3)) (.asg (.var 1) (.list false (.cons (.idx (.var 0) (.int 1)) (.nil)))) [.d (toR r), .un, .un, .un] σ = .ok (.next [.d (toR r), .d (.list [x]), .un, .un]) σ := fun x hx => by
    simp only [rb_ok, lift_some, o_map, eE_none, eE_bool, eE_int, eE_str, eE_var, eE_glob, eE_bin, eE_neg, eE_not, eE_bop, eB_one, eB_more, eE_cmp, eE_cmp2, eE_ite, eE_tup, eE_list, eE_dict0, eE_dict1, eE_idx, eE_slc, eE_call, eE_bi, eE_meth, eE_freeze, eL_nil, eL_cons, eO_no, eO_yes, eI_seq, eI_range, x_expr, x_asg, x_ite, x_ret, x_pass, x_put, x_for, xs_nil, xs_cons, stepO_next, stepO_ret, look_d, look_loc, look_locs, negR_int, noneR_none, pick_tt, pick_tf, pick_ft, pick_ff, pickO_t, pickO_f, pickB_t, t_bool, b_add, b_sub, c_lt, c_eqI, c_eqS, c_neS, List.getElem?_cons_zero, List.getElem?_cons_succ, List.set_cons_zero, List.set_cons_succ, Bool.not_true, Bool.not_false, decide_true, decide_false, hx, dispL_one, mkL_f]
  cases r with
  | set x t =>
    refine (z0 e_set_again _ _).trans ((seq_next (s1 (.str x) (i3_1 ..))).trans ((seq_next (ρ' := [.d (toR (.set x t)), .d (.list [toD t]), .un, .un]) (σ' := σ) ((ite_t (ev_b (k1 _) (e_self _))).trans ?_)).trans ((seq_next ((ite_f (ev_b (k2 _) e_set_call)).trans (xs_nil ..))).trans (tail (x := .un)))))
    simp only [rb_ok, lift_some, o_map, eE_none, eE_bool, eE_int, eE_str, eE_var, eE_glob, eE_bin, eE_neg, eE_not, eE_bop, eB_one, eB_more, eE_cmp, eE_cmp2, eE_ite, eE_tup, eE_list, eE_dict0, eE_dict1, eE_idx, eE_slc, eE_call, eE_bi, eE_meth, eE_freeze, eL_nil, eL_cons, eO_no, eO_yes, eI_seq, eI_range, x_expr, x_asg, x_ite, x_ret, x_pass, x_put, x_for, xs_nil, xs_cons, stepO_next, stepO_ret, look_d, look_loc, look_locs, negR_int, noneR_none, pick_tt, pick_tf, pick_ft, pick_ff, pickO_t, pickO_f, pickB_t, t_bool, b_add, b_sub, c_lt, c_eqI, c_eqS, c_neS, List.getElem?_cons_zero, List.getElem?_cons_succ, List.set_cons_zero, List.set_cons_succ, Bool.not_true, Bool.not_false, decide_true, decide_false, toR, i3_2, dispL_one, mkL_f]
  | tell t => exact (z0 e_tell_again _ _).trans ((seq_next (s1 (toD t) (i2_1 ..))).trans ((seq_next ((ite_f (ev_b (k1 _) e_tell_set)).trans (xs_nil ..))).trans ((seq_next ((ite_f (ev_b (k2 _) e_tell_call)).trans (xs_nil ..))).trans (tail (x := .un)))))
  | call o f ts =>
    refine (z0 e_call_again _ _).trans ((seq_next (s1 (optS o) (i4_1 ..))).trans ((seq_next ((ite_f (ev_b (k1 _) e_call_set)).trans (xs_nil ..))).trans ((seq_next (ρ' := [.d (toR (.call o f ts)), .d (.list (ts.map toD)), .un, .un]) (σ' := σ) ((ite_t (ev_b (k2 _) (e_self _))).trans ?_)).trans (tail (x := .un)))))
    simp only [rb_ok, lift_some, o_map, eE_none, eE_bool, eE_int, eE_str, eE_var, eE_glob, eE_bin, eE_neg, eE_not, eE_bop, eB_one, eB_more, eE_cmp, eE_cmp2, eE_ite, eE_tup, eE_list, eE_dict0, eE_dict1, eE_idx, eE_slc, eE_call, eE_bi, eE_meth, eE_freeze, eL_nil, eL_cons, eO_no, eO_yes, eI_seq, eI_range, x_expr, x_asg, x_ite, x_ret, x_pass, x_put, x_for, xs_nil, xs_cons, stepO_next, stepO_ret, look_d, look_loc, look_locs, negR_int, noneR_none, pick_tt, pick_tf, pick_ft, pick_ff, pickO_t, pickO_f, pickB_t, t_bool, b_add, b_sub, c_lt, c_eqI, c_eqS, c_neS, List.getElem?_cons_zero, List.getElem?_cons_succ, List.set_cons_zero, List.set_cons_succ, Bool.not_true, Bool.not_false, decide_true, decide_false, toR, i4_3, list_tup, mkL_f]
  | whn t b => exact (z0 e_when_again _ _).trans ((seq_next (s1 (toD t) (i3_1 ..))).trans ((seq_next ((ite_f (ev_b (k1 _) e_when_set)).trans (xs_nil ..))).trans ((seq_next ((ite_f (ev_b (k2 _) e_when_call)).trans (xs_nil ..))).trans (tail (x := .un)))))
  | aga n b => exact seq_ret ((ite_t (ev_b k0 (e_self _))).trans (by simp only [rb_ok, lift_some, o_map, eE_none, eE_bool, eE_int, eE_str, eE_var, eE_glob, eE_bin, eE_neg, eE_not, eE_bop, eB_one, eB_more, eE_cmp, eE_cmp2, eE_ite, eE_tup, eE_list, eE_dict0, eE_dict1, eE_idx, eE_slc, eE_call, eE_bi, eE_meth, eE_freeze, eL_nil, eL_cons, eO_no, eO_yes, eI_seq, eI_range, x_expr, x_asg, x_ite, x_ret, x_pass, x_put, x_for, xs_nil, xs_cons, stepO_next, stepO_ret, look_d, look_loc, look_locs, negR_int, noneR_none, pick_tt, pick_tf, pick_ft, pick_ff, pickO_t, pickO_f, pickB_t, t_bool, b_add, b_sub, c_lt, c_eqI, c_eqS, c_neS, List.getElem?_cons_zero, List.getElem?_cons_succ, List.set_cons_zero, List.set_cons_succ, Bool.not_true, Bool.not_false, decide_true, decide_false, dispL_nil, mkL_f]; rfl))
noncomputable def tgt : Rw → Option Str
  | .set x _ => some x
  | .call o _ _ => o
  | _ => none
theorem row_1 (r : Rw) (h : isG r = true) (σ : Store) : idxV (.d (toR r)) (.d (.int 1)) σ = some (.d (optS (tgt r))) := by
  cases r with
  | set x t => exact i3_1 ..
  | call o f ts => exact i4_1 ..
  | _ => cases h
theorem target_run (cf : Nat → List V → Store → Res V) (r : Rw) (σ : Store) : (execs prog.G cf b_law_target [.d (toR r)] σ).bind (finR σ.length) = .ok (.d (optS (tgt r))) σ := by
  refine (two_ways (t := isG r) (x := optS (tgt r)) (y := .none) ((or2 (tag_eq s_set rfl) (tag_eq s_call rfl)).trans (by rw [isG_eq])) (fun h => ?_) (eE_none ..)).trans ?_
  · rw [eE_idx, eE_var]
    show (look (some (.d (toR r))) σ).bind _ = _
    rw [look_d, rb_ok, eE_int, rb_ok, row_1 r h, lift_some]
  · cases r <;> rfl
theorem call_target (r : Rw) (d : Nat) (σ : Store) : callF prog (d + 1) i_law_target [.d (toR r)] σ = .ok (.d (optS (tgt r))) σ := by
  rw [callF_is (fn := f_law_target) rfl d _ _ rfl]
  exact target_run (callF prog d) r σ
theorem call_own_set (r : Rw) (d : Nat) (σ : Store) : callF prog (d + 1) i_own_set [.d (toR r)] σ = .ok (.d (optS (tgt r))) σ := by
  rw [callF_is (fn := f_own_set) rfl d _ _ rfl]
  exact target_run (callF prog d) r σ
theorem call_own_terms (r : Rw) (d : Nat) (σ : Store) : callF prog (d + 1) i_own_terms [.d (toR r)] σ = .ok (.d (.list ((termsOf r).map toD))) σ := by
  rw [callF_is (fn := f_own_terms) rfl d _ _ rfl]
  refine fin_of (b := b_own_terms) ?_
  have k1 := tag_eq (cf := callF prog d) (ρ := [.d (toR r)]) (σ := σ) (j := 0) (r := r) s_set rfl
  have k2 := or2 (tag_eq (cf := callF prog d) (ρ := [.d (toR r)]) (σ := σ) (j := 0) (r := r) s_tell rfl) (tag_eq (j := 0) (r := r) s_when rfl)
  have k3 := tag_eq (cf := callF prog d) (ρ := [.d (toR r)]) (σ := σ) (j := 0) (r := r) s_call rfl
  cases r with
  | set x t => exact seq_ret ((ite_t (ev_b k1 (e_self _))).trans (by simp only [rb_ok, lift_some, o_map, eE_none, eE_bool, eE_int, eE_str, eE_var, eE_glob, eE_bin, eE_neg, eE_not, eE_bop, eB_one, eB_more, eE_cmp, eE_cmp2, eE_ite, eE_tup, eE_list, eE_dict0, eE_dict1, eE_idx, eE_slc, eE_call, eE_bi, eE_meth, eE_freeze, eL_nil, eL_cons, eO_no, eO_yes, eI_seq, eI_range, x_expr, x_asg, x_ite, x_ret, x_pass, x_put, x_for, xs_nil, xs_cons, stepO_next, stepO_ret, look_d, look_loc, look_locs, negR_int, noneR_none, pick_tt, pick_tf, pick_ft, pick_ff, pickO_t, pickO_f, pickB_t, t_bool, b_add, b_sub, c_lt, c_eqI, c_eqS, c_neS, List.getElem?_cons_zero, List.getElem?_cons_succ, List.set_cons_zero, List.set_cons_succ, Bool.not_true, Bool.not_false, decide_true, decide_false, toR, i3_2, dispL_one, mkL_f, termsOf, List.map_cons, List.map_nil]))
  | tell t => exact (seq_next ((ite_f (ev_b k1 e_tell_set)).trans (xs_nil ..))).trans (seq_ret ((ite_t (ev_b k2 (or_t1 (e_self _)))).trans (by simp only [rb_ok, lift_some, o_map, eE_none, eE_bool, eE_int, eE_str, eE_var, eE_glob, eE_bin, eE_neg, eE_not, eE_bop, eB_one, eB_more, eE_cmp, eE_cmp2, eE_ite, eE_tup, eE_list, eE_dict0, eE_dict1, eE_idx, eE_slc, eE_call, eE_bi, eE_meth, eE_freeze, eL_nil, eL_cons, eO_no, eO_yes, eI_seq, eI_range, x_expr, x_asg, x_ite, x_ret, x_pass, x_put, x_for, xs_nil, xs_cons, stepO_next, stepO_ret, look_d, look_loc, look_locs, negR_int, noneR_none, pick_tt, pick_tf, pick_ft, pick_ff, pickO_t, pickO_f, pickB_t, t_bool, b_add, b_sub, c_lt, c_eqI, c_eqS, c_neS, List.getElem?_cons_zero, List.getElem?_cons_succ, List.set_cons_zero, List.set_cons_succ, Bool.not_true, Bool.not_false, decide_true, decide_false, toR, i2_1, dispL_one, mkL_f, termsOf, List.map_cons, List.map_nil])))
  | call o f ts => exact (seq_next ((ite_f (ev_b k1 e_call_set)).trans (xs_nil ..))).trans ((seq_next ((ite_f (ev_b k2 (or_ff e_call_tell e_call_when))).trans (xs_nil ..))).trans (seq_ret ((ite_t (ev_b k3 (e_self _))).trans (by simp only [rb_ok, lift_some, o_map, eE_none, eE_bool, eE_int, eE_str, eE_var, eE_glob, eE_bin, eE_neg, eE_not, eE_bop, eB_one, eB_more, eE_cmp, eE_cmp2, eE_ite, eE_tup, eE_list, eE_dict0, eE_dict1, eE_idx, eE_slc, eE_call, eE_bi, eE_meth, eE_freeze, eL_nil, eL_cons, eO_no, eO_yes, eI_seq, eI_range, x_expr, x_asg, x_ite, x_ret, x_pass, x_put, x_for, xs_nil, xs_cons, stepO_next, stepO_ret, look_d, look_loc, look_locs, negR_int, noneR_none, pick_tt, pick_tf, pick_ft, pick_ff, pickO_t, pickO_f, pickB_t, t_bool, b_add, b_sub, c_lt, c_eqI, c_eqS, c_neS, List.getElem?_cons_zero, List.getElem?_cons_succ, List.set_cons_zero, List.set_cons_succ, Bool.not_true, Bool.not_false, decide_true, decide_false, toR, i4_3, list_tup, mkL_f, termsOf]))))
  | whn t b => exact (seq_next ((ite_f (ev_b k1 e_when_set)).trans (xs_nil ..))).trans (seq_ret ((ite_t (ev_b k2 (or_t2 (e_self _)))).trans (by simp only [rb_ok, lift_some, o_map, eE_none, eE_bool, eE_int, eE_str, eE_var, eE_glob, eE_bin, eE_neg, eE_not, eE_bop, eB_one, eB_more, eE_cmp, eE_cmp2, eE_ite, eE_tup, eE_list, eE_dict0, eE_dict1, eE_idx, eE_slc, eE_call, eE_bi, eE_meth, eE_freeze, eL_nil, eL_cons, eO_no, eO_yes, eI_seq, eI_range, x_expr, x_asg, x_ite, x_ret, x_pass, x_put, x_for, xs_nil, xs_cons, stepO_next, stepO_ret, look_d, look_loc, look_locs, negR_int, noneR_none, pick_tt, pick_tf, pick_ft, pick_ff, pickO_t, pickO_f, pickB_t, t_bool, b_add, b_sub, c_lt, c_eqI, c_eqS, c_neS, List.getElem?_cons_zero, List.getElem?_cons_succ, List.set_cons_zero, List.set_cons_succ, Bool.not_true, Bool.not_false, decide_true, decide_false, toR, i3_1, dispL_one, mkL_f, termsOf, List.map_cons, List.map_nil])))
  | aga n b => exact (seq_next ((ite_f (ev_b k1 e_again_set)).trans (xs_nil ..))).trans ((seq_next ((ite_f (ev_b k2 (or_ff e_again_tell e_again_when))).trans (xs_nil ..))).trans ((seq_next ((ite_f (ev_b k3 e_again_call)).trans (xs_nil ..))).trans (by simp only [rb_ok, lift_some, o_map, eE_none, eE_bool, eE_int, eE_str, eE_var, eE_glob, eE_bin, eE_neg, eE_not, eE_bop, eB_one, eB_more, eE_cmp, eE_cmp2, eE_ite, eE_tup, eE_list, eE_dict0, eE_dict1, eE_idx, eE_slc, eE_call, eE_bi, eE_meth, eE_freeze, eL_nil, eL_cons, eO_no, eO_yes, eI_seq, eI_range, x_expr, x_asg, x_ite, x_ret, x_pass, x_put, x_for, xs_nil, xs_cons, stepO_next, stepO_ret, look_d, look_loc, look_locs, negR_int, noneR_none, pick_tt, pick_tf, pick_ft, pick_ff, pickO_t, pickO_f, pickB_t, t_bool, b_add, b_sub, c_lt, c_eqI, c_eqS, c_neS, List.getElem?_cons_zero, List.getElem?_cons_succ, List.set_cons_zero, List.set_cons_succ, Bool.not_true, Bool.not_false, decide_true, decide_false, dispL_nil, mkL_f, termsOf, List.map_nil])))

/-! conditions on a row -/
section
variable {cf : Nat → List V → Store → Res V} {ρ : Fm} {σ : Store}
theorem sc_and {e₁ e₂ : E} {a b : Bool} (h1 : evalE prog.G cf e₁ ρ σ = .ok (.d (.bool a)) σ) (h2 : a = true → evalE prog.G cf e₂ ρ σ = .ok (.d (.bool b)) σ) : evalE prog.G cf (.bop true (.cons e₁ (.cons e₂ .nil))) ρ σ = .ok (.d (.bool (a && b))) σ := by
  cases a with
  | true => exact and2 h1 (h2 rfl)
  | false => simp only [eE_bop, eB_more, h1, rb_ok, t_bool, lift_some, pick_tf, Bool.false_and]
theorem sc_or {e₁ e₂ : E} {a b : Bool} (h1 : evalE prog.G cf e₁ ρ σ = .ok (.d (.bool a)) σ) (h2 : evalE prog.G cf e₂ ρ σ = .ok (.d (.bool b)) σ) : evalE prog.G cf (.bop false (.cons e₁ (.cons e₂ .nil))) ρ σ = .ok (.d (.bool (a || b))) σ := or2 h1 h2
noncomputable def isA : Rw → Bool
  | .aga n _ => decide (n > 0)
  | _ => false
noncomputable def isW : Rw → Bool
  | .whn _ _ => true
  | r => isA r
theorem isA_B {r : Rw} (h : isA r = true) : isB r = true := by
  cases r with
  | aga n b => rfl
  | _ => cases h
theorem isW_B {r : Rw} (h : isW r = true) : isB r = true := by
  cases r with
  | aga n b => rfl
  | whn t b => rfl
  | _ => cases h
theorem cnd_A {j : Nat} {r : Rw} (h : ρ[j]? = some (.d (toR r))) : evalE prog.G cf (.bop true (.cons (.cmp .eq (.idx (.var j) (.int 0)) (.str s_again)) (.cons (.cmp .gt (.idx (.var j) (.int 1)) (.int 0)) (.nil)))) ρ σ = .ok (.d (.bool (isA r))) σ := by
  cases r with
  | aga n b =>
    refine ev_b (sc_and (b := decide (n > 0)) (tag_eq s_again h) fun _ => ?_) (by rw [show decide (tag (.aga n b) = s_again) = true from e_self _]; rfl)
    have i1 : idxV (.d (toR (.aga n b))) (.d (.int 1)) σ = some (.d (.int n)) := i3_1 ..
    rw [eE_cmp, eE_idx, eE_var, h, look_d, rb_ok, eE_int, rb_ok, i1, lift_some, rb_ok, eE_int, rb_ok, c_gt, o_map, lift_some]
  | set x t => exact ev_b (sc_and (b := false) (ev_b (tag_eq s_again h) e_set_again) fun q => by cases q) rfl
  | tell t => exact ev_b (sc_and (b := false) (ev_b (tag_eq s_again h) e_tell_again) fun q => by cases q) rfl
  | call o f ts => exact ev_b (sc_and (b := false) (ev_b (tag_eq s_again h) e_call_again) fun q => by cases q) rfl
  | whn t b => exact ev_b (sc_and (b := false) (ev_b (tag_eq s_again h) e_when_again) fun q => by cases q) rfl
theorem isW_eq (r : Rw) : (decide (tag r = s_when) || isA r) = isW r := by
  cases r with
  | set x t => exact or_ff e_set_when rfl
  | tell t => exact or_ff e_tell_when rfl
  | call o f ts => exact or_ff e_call_when rfl
  | whn t b => exact or_t1 (e_self _)
  | aga n b =>
    show (decide (s_again = s_when) || decide (n > 0)) = decide (n > 0)
    rw [e_again_when, Bool.false_or]
theorem cnd_W {j : Nat} {r : Rw} (h : ρ[j]? = some (.d (toR r))) : evalE prog.G cf (.bop false (.cons (.cmp .eq (.idx (.var j) (.int 0)) (.str s_when)) (.cons (.bop true (.cons (.cmp .eq (.idx (.var j) (.int 0)) (.str s_again)) (.cons (.cmp .gt (.idx (.var j) (.int 1)) (.int 0)) (.nil)))) (.nil)))) ρ σ = .ok (.d (.bool (isW r))) σ :=
  ev_b (sc_or (tag_eq s_when h) (cnd_A h)) (isW_eq r)
end

/-! scan -/
mutual
noncomputable def stepR (x : Str) : Rw → Bool → Bool × Bool
  | .set y t, rd => (rd || decide (x ∈ own (.set y t)), !decide (y = x))
  | .tell t, rd => (rd || decide (x ∈ own (.tell t)), true)
  | .call o f ts, rd => (rd || decide (x ∈ own (.call o f ts)), !decide (o = some x))
  | .whn t b, rd => ((rd || decide (x ∈ own (.whn t b))) || (scanL x b false).1, true)
  | .aga n b, rd => if n > 0 then ((rd || decide (x ∈ own (.aga n b))) || (scanL x b false).1, (scanL x b false).2) else (rd || decide (x ∈ own (.aga n b)), true)
noncomputable def scanL (x : Str) : RL → Bool → Bool × Bool
  | .nil, rd => (rd, true)
  | .cons r b, rd => if (stepR x r rd).2 then scanL x b (stepR x r rd).1 else ((stepR x r rd).1, false)
end
noncomputable def pairB (p : Bool × Bool) : PyData := .tuple [.bool p.1, .bool p.2]
noncomputable def scanIf2 : S := .ite (.cmp .eq (.call i_law_target (.cons (.var 3) (.nil))) (.var 1))
      (.cons (.ret (.tup (.cons (.var 2) (.cons (.bool false) (.nil))))) (
      .nil))
      (.nil)
noncomputable def scanIf1 : S := .ite (.bop false (.cons (.cmp .eq (.idx (.var 3) (.int 0)) (.str s_when)) (.cons (.bop true (.cons (.cmp .eq (.idx (.var 3) (.int 0)) (.str s_again)) (.cons (.cmp .gt (.idx (.var 3) (.int 1)) (.int 0)) (.nil)))) (.nil))))
      (.cons (.asg (.var 4) (.call i_law_scan (.cons (.idx (.var 3) (.int 2)) (.cons (.var 1) (.nil))))) (
      .cons (.asg (.var 2) (.bop false (.cons (.var 2) (.cons (.idx (.var 4) (.int 0)) (.nil))))) (
      .cons (.ite (.bop true (.cons (.cmp .eq (.idx (.var 3) (.int 0)) (.str s_again)) (.cons (.not (.idx (.var 4) (.int 1))) (.nil))))
        (.cons (.ret (.tup (.cons (.var 2) (.cons (.bool false) (.nil))))) (
        .nil))
        (.nil)) (
      .nil))))
      (.nil)
noncomputable def scanBody : SL := .cons (.asg (.var 2) (.bop false (.cons (.var 2) (.cons (.cmp .isIn (.var 1) (.call i_law_own (.cons (.var 3) (.nil)))) (.nil))))) (
    .cons scanIf1 (
    .cons scanIf2 (
    .nil)))
theorem opt_eq (o : Option Str) (x : Str) (σ : Store) : cmpV .eq (.d (optS o)) (.d (.str x)) σ = some (decide (o = some x)) := by
  cases o with
  | none => exact byR rfl
  | some y =>
    show cmpV .eq (.d (.str y)) (.d (.str x)) σ = _
    rw [c_eqS]
    congr 1
    by_cases h : y = x <;> simp [h]
section
variable (d : Nat) (x : Str) (v0 : V) (σ : Store)
theorem scan_end {r : Rw} (rd : Bool) (v4 : V) : execs prog.G (callF prog (d + 4)) (.cons scanIf2 .nil) [v0, .d (.str x), .d (.bool rd), .d (toR r), v4] σ = if decide (tgt r = some x) then .ok (.ret (.d (pairB (rd, false)))) σ else .ok (.next [v0, .d (.str x), .d (.bool rd), .d (toR r), v4]) σ := by
  have e := call_target r (d + 3) σ
  have c : evalE prog.G (callF prog (d + 4)) (.cmp .eq (.call i_law_target (.cons (.var 3) (.nil))) (.var 1)) [v0, .d (.str x), .d (.bool rd), .d (toR r), v4] σ = .ok (.d (.bool (decide (tgt r = some x)))) σ := by
    simp only [eE_cmp, eE_call, eL_cons, eL_nil, eE_var, List.getElem?_cons_zero, List.getElem?_cons_succ, look_d, rb_ok, e, opt_eq, o_map, lift_some]
  by_cases h : tgt r = some x
  · rw [decide_eq_true h] at c
    rw [if_pos (decide_eq_true h)]
    refine seq_ret ((ite_t c).trans ?_)
    simp only [rb_ok, lift_some, o_map, eE_none, eE_bool, eE_int, eE_str, eE_var, eE_glob, eE_bin, eE_neg, eE_not, eE_bop, eB_one, eB_more, eE_cmp, eE_cmp2, eE_ite, eE_tup, eE_list, eE_dict0, eE_dict1, eE_idx, eE_slc, eE_call, eE_bi, eE_meth, eE_freeze, eL_nil, eL_cons, eO_no, eO_yes, eI_seq, eI_range, x_expr, x_asg, x_ite, x_ret, x_pass, x_put, x_for, xs_nil, xs_cons, stepO_next, stepO_ret, look_d, look_loc, look_locs, negR_int, noneR_none, pick_tt, pick_tf, pick_ft, pick_ff, pickO_t, pickO_f, pickB_t, t_bool, b_add, b_sub, c_lt, c_eqI, c_eqS, c_neS, List.getElem?_cons_zero, List.getElem?_cons_succ, List.set_cons_zero, List.set_cons_succ, Bool.not_true, Bool.not_false, decide_true, decide_false, dispT_two]; rfl
  · rw [decide_eq_false h] at c
    rw [if_neg (by simp [h])]
    exact (seq_next ((ite_f c).trans (xs_nil ..))).trans (xs_nil ..)
theorem scan_own {ws : List Str} {r : Rw} (hr : okR ws r) (rd : Bool) (v4 : V) : exec prog.G (callF prog (d + 4)) (.asg (.var 2) (.bop false (.cons (.var 2) (.cons (.cmp .isIn (.var 1) (.call i_law_own (.cons (.var 3) (.nil)))) (.nil))))) [v0, .d (.str x), .d (.bool rd), .d (toR r), v4] σ = .ok (.next [v0, .d (.str x), .d (.bool (rd || decide (x ∈ own r))), .d (toR r), v4]) σ := by
  have e := call_own hr d σ
  rw [x_asg, or2 (a := rd) (b := decide (x ∈ own r)) (by simp only [rb_ok, lift_some, o_map, eE_none, eE_bool, eE_int, eE_str, eE_var, eE_glob, eE_bin, eE_neg, eE_not, eE_bop, eB_one, eB_more, eE_cmp, eE_cmp2, eE_ite, eE_tup, eE_list, eE_dict0, eE_dict1, eE_idx, eE_slc, eE_call, eE_bi, eE_meth, eE_freeze, eL_nil, eL_cons, eO_no, eO_yes, eI_seq, eI_range, x_expr, x_asg, x_ite, x_ret, x_pass, x_put, x_for, xs_nil, xs_cons, stepO_next, stepO_ret, look_d, look_loc, look_locs, negR_int, noneR_none, pick_tt, pick_tf, pick_ft, pick_ff, pickO_t, pickO_f, pickB_t, t_bool, b_add, b_sub, c_lt, c_eqI, c_eqS, c_neS, List.getElem?_cons_zero, List.getElem?_cons_succ, List.set_cons_zero, List.set_cons_succ, Bool.not_true, Bool.not_false, decide_true, decide_false]) (by simp only [eE_cmp, eE_call, eL_cons, eL_nil, eE_var, List.getElem?_cons_zero, List.getElem?_cons_succ, look_d, rb_ok, e, c_in, in_list, any_mem, o_map, lift_some]), rb_ok]
  rfl
theorem scan_told (r : Rw) (hb : isB r = true) (rd : Bool) (v4 : V) (H : callF prog (d + 4) i_law_scan [.d (.tuple (toRL (blk r))), .d (.str x)] σ = .ok (.d (pairB (scanL x (blk r) false))) σ) (rest : SL) :
    execs prog.G (callF prog (d + 4)) (.cons (.asg (.var 4) (.call i_law_scan (.cons (.idx (.var 3) (.int 2)) (.cons (.var 1) (.nil))))) (.cons (.asg (.var 2) (.bop false (.cons (.var 2) (.cons (.idx (.var 4) (.int 0)) (.nil))))) rest)) [v0, .d (.str x), .d (.bool rd), .d (toR r), v4] σ =
      execs prog.G (callF prog (d + 4)) rest [v0, .d (.str x), .d (.bool (rd || (scanL x (blk r) false).1)), .d (toR r), .d (pairB (scanL x (blk r) false))] σ := by
  have s1 : exec prog.G (callF prog (d + 4)) (.asg (.var 4) (.call i_law_scan (.cons (.idx (.var 3) (.int 2)) (.cons (.var 1) (.nil))))) [v0, .d (.str x), .d (.bool rd), .d (toR r), v4] σ = .ok (.next [v0, .d (.str x), .d (.bool rd), .d (toR r), .d (pairB (scanL x (blk r) false))]) σ := by
    simp only [rb_ok, lift_some, o_map, eE_none, eE_bool, eE_int, eE_str, eE_var, eE_glob, eE_bin, eE_neg, eE_not, eE_bop, eB_one, eB_more, eE_cmp, eE_cmp2, eE_ite, eE_tup, eE_list, eE_dict0, eE_dict1, eE_idx, eE_slc, eE_call, eE_bi, eE_meth, eE_freeze, eL_nil, eL_cons, eO_no, eO_yes, eI_seq, eI_range, x_expr, x_asg, x_ite, x_ret, x_pass, x_put, x_for, xs_nil, xs_cons, stepO_next, stepO_ret, look_d, look_loc, look_locs, negR_int, noneR_none, pick_tt, pick_tf, pick_ft, pick_ff, pickO_t, pickO_f, pickB_t, t_bool, b_add, b_sub, c_lt, c_eqI, c_eqS, c_neS, List.getElem?_cons_zero, List.getElem?_cons_succ, List.set_cons_zero, List.set_cons_succ, Bool.not_true, Bool.not_false, decide_true, decide_false, row_2 r hb, H]
  have s2 : exec prog.G (callF prog (d + 4)) (.asg (.var 2) (.bop false (.cons (.var 2) (.cons (.idx (.var 4) (.int 0)) (.nil))))) [v0, .d (.str x), .d (.bool rd), .d (toR r), .d (pairB (scanL x (blk r) false))] σ = .ok (.next [v0, .d (.str x), .d (.bool (rd || (scanL x (blk r) false).1)), .d (toR r), .d (pairB (scanL x (blk r) false))]) σ := by
    rw [x_asg, or2 (a := rd) (b := (scanL x (blk r) false).1) (by simp only [rb_ok, lift_some, o_map, eE_none, eE_bool, eE_int, eE_str, eE_var, eE_glob, eE_bin, eE_neg, eE_not, eE_bop, eB_one, eB_more, eE_cmp, eE_cmp2, eE_ite, eE_tup, eE_list, eE_dict0, eE_dict1, eE_idx, eE_slc, eE_call, eE_bi, eE_meth, eE_freeze, eL_nil, eL_cons, eO_no, eO_yes, eI_seq, eI_range, x_expr, x_asg, x_ite, x_ret, x_pass, x_put, x_for, xs_nil, xs_cons, stepO_next, stepO_ret, look_d, look_loc, look_locs, negR_int, noneR_none, pick_tt, pick_tf, pick_ft, pick_ff, pickO_t, pickO_f, pickB_t, t_bool, b_add, b_sub, c_lt, c_eqI, c_eqS, c_neS, List.getElem?_cons_zero, List.getElem?_cons_succ, List.set_cons_zero, List.set_cons_succ, Bool.not_true, Bool.not_false, decide_true, decide_false]) (by simp only [rb_ok, lift_some, o_map, eE_none, eE_bool, eE_int, eE_str, eE_var, eE_glob, eE_bin, eE_neg, eE_not, eE_bop, eB_one, eB_more, eE_cmp, eE_cmp2, eE_ite, eE_tup, eE_list, eE_dict0, eE_dict1, eE_idx, eE_slc, eE_call, eE_bi, eE_meth, eE_freeze, eL_nil, eL_cons, eO_no, eO_yes, eI_seq, eI_range, x_expr, x_asg, x_ite, x_ret, x_pass, x_put, x_for, xs_nil, xs_cons, stepO_next, stepO_ret, look_d, look_loc, look_locs, negR_int, noneR_none, pick_tt, pick_tf, pick_ft, pick_ff, pickO_t, pickO_f, pickB_t, t_bool, b_add, b_sub, c_lt, c_eqI, c_eqS, c_neS, List.getElem?_cons_zero, List.getElem?_cons_succ, List.set_cons_zero, List.set_cons_succ, Bool.not_true, Bool.not_false, decide_true, decide_false, pairB, i2_0]), rb_ok]
    rfl
  rw [seq_next s1, seq_next s2]
/-- what a step tells, in one line -/
noncomputable def rdW (x : Str) (r : Rw) (rd : Bool) : Bool := if isW r then (rd || decide (x ∈ own r)) || (scanL x (blk r) false).1 else rd || decide (x ∈ own r)
noncomputable def stopW (x : Str) (r : Rw) : Bool := isA r && !(scanL x (blk r) false).2
theorem stepR_eq (x : Str) (r : Rw) (rd : Bool) : stepR x r rd = (rdW x r rd, !(stopW x r || decide (tgt r = some x))) := by
  cases r with
  | set y t =>
    rw [stepR]
    refine congrArg (Prod.mk _) (congrArg (!·) ?_)
    show decide (y = x) = (false && _ || decide (some y = some x))
    by_cases h : y = x <;> simp [h]
  | tell t => rw [stepR]; rfl
  | call o f ts =>
    rw [stepR]
    refine congrArg (Prod.mk _) (congrArg (!·) ?_)
    show decide (o = some x) = (false && _ || decide (o = some x))
    rw [Bool.false_and, Bool.false_or]
  | whn t b => rw [stepR]; rfl
  | aga n b =>
    rw [stepR]
    by_cases h : n > 0
    · have e : isA (.aga n b) = true := decide_eq_true h
      have e' : isW (.aga n b) = true := decide_eq_true h
      rw [if_pos h]
      unfold rdW stopW
      rw [e, e', if_pos rfl]
      show _ = (_, !(true && !(scanL x b false).2 || decide (none = some x)))
      simp
      rfl
    · have e : isA (.aga n b) = false := decide_eq_false h
      have e' : isW (.aga n b) = false := decide_eq_false h
      rw [if_neg h]
      unfold rdW stopW
      rw [e, e']
      rfl
theorem cnd_S {r : Rw} (hw : isW r = true) (rd : Bool) : evalE prog.G (callF prog (d + 4)) (.bop true (.cons (.cmp .eq (.idx (.var 3) (.int 0)) (.str s_again)) (.cons (.not (.idx (.var 4) (.int 1))) (.nil)))) [v0, .d (.str x), .d (.bool rd), .d (toR r), .d (pairB (scanL x (blk r) false))] σ = .ok (.d (.bool (stopW x r))) σ := by
  have k := tag_eq (cf := callF prog (d + 4)) (ρ := [v0, .d (.str x), .d (.bool rd), .d (toR r), .d (pairB (scanL x (blk r) false))]) (σ := σ) (j := 3) (r := r) s_again rfl
  have n1 : evalE prog.G (callF prog (d + 4)) (.not (.idx (.var 4) (.int 1))) [v0, .d (.str x), .d (.bool rd), .d (toR r), .d (pairB (scanL x (blk r) false))] σ = .ok (.d (.bool (!(scanL x (blk r) false).2))) σ := by simp only [rb_ok, lift_some, o_map, eE_none, eE_bool, eE_int, eE_str, eE_var, eE_glob, eE_bin, eE_neg, eE_not, eE_bop, eB_one, eB_more, eE_cmp, eE_cmp2, eE_ite, eE_tup, eE_list, eE_dict0, eE_dict1, eE_idx, eE_slc, eE_call, eE_bi, eE_meth, eE_freeze, eL_nil, eL_cons, eO_no, eO_yes, eI_seq, eI_range, x_expr, x_asg, x_ite, x_ret, x_pass, x_put, x_for, xs_nil, xs_cons, stepO_next, stepO_ret, look_d, look_loc, look_locs, negR_int, noneR_none, pick_tt, pick_tf, pick_ft, pick_ff, pickO_t, pickO_f, pickB_t, t_bool, b_add, b_sub, c_lt, c_eqI, c_eqS, c_neS, List.getElem?_cons_zero, List.getElem?_cons_succ, List.set_cons_zero, List.set_cons_succ, Bool.not_true, Bool.not_false, decide_true, decide_false, pairB, i2_1]
  refine ev_b (sc_and k fun _ => n1) ?_
  unfold stopW
  cases r with
  | whn t b => rw [show decide (tag (.whn t b) = s_again) = false from e_when_again]; rfl
  | aga n b => rw [show decide (tag (.aga n b) = s_again) = true from e_self _, show isA (.aga n b) = true from hw]
  | _ => cases hw
theorem scan_step {ws : List Str} {r : Rw} (hr : okR ws r) (H : callF prog (d + 4) i_law_scan [.d (.tuple (toRL (blk r))), .d (.str x)] σ = .ok (.d (pairB (scanL x (blk r) false))) σ) (rd : Bool) (v3 v4 : V) : ∃ v4', loopF' prog.G (callF prog (d + 4)) 3 scanBody (toR r) [v0, .d (.str x), .d (.bool rd), v3, v4] σ =
    if (stepR x r rd).2 then .ok (.next [v0, .d (.str x), .d (.bool (stepR x r rd).1), .d (toR r), v4']) σ else .ok (.ret (.d (pairB ((stepR x r rd).1, false)))) σ := by
  show ∃ v4', execs prog.G (callF prog (d + 4)) scanBody [v0, .d (.str x), .d (.bool rd), .d (toR r), v4] σ = _
  unfold scanBody
  rw [seq_next (scan_own d x v0 σ hr rd v4), stepR_eq]
  unfold rdW
  generalize (rd || decide (x ∈ own r)) = rd1
  have k := cnd_W (cf := callF prog (d + 4)) (ρ := [v0, .d (.str x), .d (.bool rd1), .d (toR r), v4]) (σ := σ) (j := 3) (r := r) rfl
  cases hw : isW r with
  | false =>
    refine ⟨v4, ?_⟩
    have hs : stopW x r = false := by
      unfold stopW
      cases r with
      | aga n b => rw [show isA (.aga n b) = false from hw]; rfl
      | _ => rfl
    rw [hw] at k
    rw [hs]
    refine (seq_next (ρ' := [v0, .d (.str x), .d (.bool rd1), .d (toR r), v4]) (σ' := σ) ((ite_f k).trans (xs_nil ..))).trans ((scan_end d x v0 σ rd1 v4).trans ?_)
    cases decide (tgt r = some x) <;> rfl
  | true =>
    rw [hw] at k
    have k2 := cnd_S d x v0 σ hw (rd1 || (scanL x (blk r) false).1)
    cases hs : stopW x r with
    | true =>
      rw [hs] at k2
      refine ⟨v4, ?_⟩
      refine (seq_ret (v := .d (pairB (rd1 || (scanL x (blk r) false).1, false))) (σ' := σ) ((ite_t k).trans ((scan_told d x v0 σ r (isW_B hw) rd1 v4 H _).trans (seq_ret ((ite_t k2).trans ?_))))).trans rfl
      simp only [rb_ok, lift_some, o_map, eE_none, eE_bool, eE_int, eE_str, eE_var, eE_glob, eE_bin, eE_neg, eE_not, eE_bop, eB_one, eB_more, eE_cmp, eE_cmp2, eE_ite, eE_tup, eE_list, eE_dict0, eE_dict1, eE_idx, eE_slc, eE_call, eE_bi, eE_meth, eE_freeze, eL_nil, eL_cons, eO_no, eO_yes, eI_seq, eI_range, x_expr, x_asg, x_ite, x_ret, x_pass, x_put, x_for, xs_nil, xs_cons, stepO_next, stepO_ret, look_d, look_loc, look_locs, negR_int, noneR_none, pick_tt, pick_tf, pick_ft, pick_ff, pickO_t, pickO_f, pickB_t, t_bool, b_add, b_sub, c_lt, c_eqI, c_eqS, c_neS, List.getElem?_cons_zero, List.getElem?_cons_succ, List.set_cons_zero, List.set_cons_succ, Bool.not_true, Bool.not_false, decide_true, decide_false, dispT_two]; rfl
    | false =>
      rw [hs] at k2
      refine ⟨.d (pairB (scanL x (blk r) false)), ?_⟩
      refine (seq_next (ρ' := [v0, .d (.str x), .d (.bool (rd1 || (scanL x (blk r) false).1)), .d (toR r), .d (pairB (scanL x (blk r) false))]) (σ' := σ) ((ite_t k).trans ((scan_told d x v0 σ r (isW_B hw) rd1 v4 H _).trans ((seq_next ((ite_f k2).trans (xs_nil ..))).trans (xs_nil ..))))).trans ((scan_end d x v0 σ _ _).trans ?_)
      cases decide (tgt r = some x) <;> rfl
end
theorem scan_loop {ws : List Str} (d : Nat) (x : Str) (v0 : V) (σ : Store) : ∀ (b : RL), okL ws b → (∀ r ∈ lst b, callF prog (d + 4) i_law_scan [.d (.tuple (toRL (blk r))), .d (.str x)] σ = .ok (.d (pairB (scanL x (blk r) false))) σ) → ∀ (rd : Bool) (v3 v4 : V),
    (∃ v3' v4', (scanL x b rd).2 = true ∧ loopL (loopF' prog.G (callF prog (d + 4)) 3 scanBody) (toRL b) [v0, .d (.str x), .d (.bool rd), v3, v4] σ = .ok (.next [v0, .d (.str x), .d (.bool (scanL x b rd).1), v3', v4']) σ) ∨
    ((scanL x b rd).2 = false ∧ loopL (loopF' prog.G (callF prog (d + 4)) 3 scanBody) (toRL b) [v0, .d (.str x), .d (.bool rd), v3, v4] σ = .ok (.ret (.d (pairB (scanL x b rd)))) σ)
  | .nil, _, _, rd, v3, v4 => .inl ⟨v3, v4, rfl, rfl⟩
  | .cons r b, ok, H, rd, v3, v4 => by
    obtain ⟨v4', st⟩ := scan_step d x v0 σ ok.1 (H r (List.mem_cons_self ..)) rd v3 v4
    have e : scanL x (.cons r b) rd = if (stepR x r rd).2 then scanL x b (stepR x r rd).1 else ((stepR x r rd).1, false) := by rw [scanL]
    have el : toRL (.cons r b) = toR r :: toRL b := rfl
    rw [el, lo_cons, st, e]
    cases h : (stepR x r rd).2 with
    | true =>
      rw [if_pos rfl, if_pos rfl, rb_ok, nextO_next]
      exact scan_loop d x v0 σ b ok.2 (fun r hr => H r (List.mem_cons_of_mem _ hr)) _ _ _
    | false =>
      refine .inr ⟨by rw [if_neg (by simp)], ?_⟩
      rw [if_neg (by simp), if_neg (by simp), rb_ok]; rfl
theorem call_scan {ws : List Str} (x : Str) : ∀ (h : Nat) (b : RL) (d : Nat) (σ : Store), okL ws b → hL b ≤ h → callF prog (d + h + 6) i_law_scan [.d (.tuple (toRL b)), .d (.str x)] σ = .ok (.d (pairB (scanL x b false))) σ := by
  have core : ∀ (b : RL) (d : Nat) (σ : Store), okL ws b → (∀ r ∈ lst b, callF prog (d + 4) i_law_scan [.d (.tuple (toRL (blk r))), .d (.str x)] σ = .ok (.d (pairB (scanL x (blk r) false))) σ) → callF prog (d + 5) i_law_scan [.d (.tuple (toRL b)), .d (.str x)] σ = .ok (.d (pairB (scanL x b false))) σ := by
    intro b d σ ok H
    rw [callF_is (fn := f_law_scan) rfl (d + 4) _ _ rfl]
    show (execs prog.G (callF prog (d + 4)) (.cons (.asg (.var 2) (.bool false)) (.cons (.forr (.var 3) (.seq (.var 0)) scanBody) (.cons (.ret (.tup (.cons (.var 2) (.cons (.bool true) (.nil))))) (.nil)))) [.d (.tuple (toRL b)), .d (.str x), .un, .un, .un] σ).bind (finR σ.length) = _
    rcases scan_loop (ws := ws) d x (.d (.tuple (toRL b))) σ b ok H false .un .un with ⟨v3', v4', h1, h2⟩ | ⟨h1, h2⟩
    · simp only [rb_ok, lift_some, o_map, eE_none, eE_bool, eE_int, eE_str, eE_var, eE_glob, eE_bin, eE_neg, eE_not, eE_bop, eB_one, eB_more, eE_cmp, eE_cmp2, eE_ite, eE_tup, eE_list, eE_dict0, eE_dict1, eE_idx, eE_slc, eE_call, eE_bi, eE_meth, eE_freeze, eL_nil, eL_cons, eO_no, eO_yes, eI_seq, eI_range, x_expr, x_asg, x_ite, x_ret, x_pass, x_put, x_for, xs_nil, xs_cons, stepO_next, stepO_ret, look_d, look_loc, look_locs, negR_int, noneR_none, pick_tt, pick_tf, pick_ft, pick_ff, pickO_t, pickO_f, pickB_t, t_bool, b_add, b_sub, c_lt, c_eqI, c_eqS, c_neS, List.getElem?_cons_zero, List.getElem?_cons_succ, List.set_cons_zero, List.set_cons_succ, Bool.not_true, Bool.not_false, decide_true, decide_false, open_tup, lock_none, unlock_none, h2, dispT_two, finR_ret, exit_d, pairB, h1]
    · simp only [rb_ok, lift_some, o_map, eE_none, eE_bool, eE_int, eE_str, eE_var, eE_glob, eE_bin, eE_neg, eE_not, eE_bop, eB_one, eB_more, eE_cmp, eE_cmp2, eE_ite, eE_tup, eE_list, eE_dict0, eE_dict1, eE_idx, eE_slc, eE_call, eE_bi, eE_meth, eE_freeze, eL_nil, eL_cons, eO_no, eO_yes, eI_seq, eI_range, x_expr, x_asg, x_ite, x_ret, x_pass, x_put, x_for, xs_nil, xs_cons, stepO_next, stepO_ret, look_d, look_loc, look_locs, negR_int, noneR_none, pick_tt, pick_tf, pick_ft, pick_ff, pickO_t, pickO_f, pickB_t, t_bool, b_add, b_sub, c_lt, c_eqI, c_eqS, c_neS, List.getElem?_cons_zero, List.getElem?_cons_succ, List.set_cons_zero, List.set_cons_succ, Bool.not_true, Bool.not_false, decide_true, decide_false, open_tup, lock_none, unlock_none, h2, finR_ret, exit_d]
  intro h
  induction h with
  | zero =>
    intro b d σ ok hh
    refine core b (d + 1) σ ok fun r hr => ?_
    have hz : hR r = 0 := Nat.le_zero.mp (Nat.le_trans (hL_lst hr) hh)
    have hb : blk r = .nil := by
      cases r with
      | whn t b => exact absurd hz (Nat.succ_ne_zero _)
      | aga t b => exact absurd hz (Nat.succ_ne_zero _)
      | _ => rfl
    rw [hb]
    exact core .nil d σ trivial fun r hr => by cases hr
  | succ h ih =>
    intro b d σ ok hh
    have e : d + (h + 1) + 6 = (d + h + 2) + 5 := by omega
    rw [e]
    refine core b (d + h + 2) σ ok fun r hr => ?_
    have hbh : hL (blk r) ≤ h := by
      have h1 := hL_lst hr
      cases r with
      | whn t b => show hL b ≤ h; have : hL b + 1 ≤ _ := h1; omega
      | aga t b => show hL b ≤ h; have : hL b + 1 ≤ _ := h1; omega
      | _ => exact Nat.zero_le _
    exact ih (blk r) d σ (blk_ok (okL_lst ok r hr)) hbh
end Mine.L03

set_option autoImplicit false
set_option linter.unusedVariables false
set_option linter.unusedSimpArgs false
namespace Mine.L03
open PySem Mine

/-! dicts as sets -/
noncomputable def dk (L : List Str) : List (Str × PyData) := L.map fun k => (k, .bool true)
theorem dk_any (L : List Str) (k : Str) : (dk L).any (fun x => decide (x.1 = k)) = decide (k ∈ L) := by
  induction L with
  | nil => rfl
  | cons y L ih =>
    have e : (dk (y :: L)).any (fun x => decide (x.1 = k)) = (decide (y = k) || (dk L).any (fun x => decide (x.1 = k))) := rfl
    rw [e, ih]
    by_cases h : y = k
    · simp [h]
    · simp [h, Ne.symm h]
theorem put1_dk (L : List Str) (k : Str) : put1 k (.bool true) (dk L) = dk (addN L k) := by
  unfold put1 addN
  rw [dk_any]
  by_cases h : k ∈ L
  · rw [if_pos (decide_eq_true h), if_pos h]
    unfold dk
    rw [List.map_map]
    refine List.map_congr_left fun y _ => ?_
    show (if y = k then (y, PyData.bool true) else (y, PyData.bool true)) = _
    split <;> rfl
  · rw [if_neg (by simp [h]), if_neg h]
    unfold dk; rw [List.map_append]; rfl
theorem putAll_dk : ∀ (M L : List Str), putAll (dk L) (dk M) = dk (M.foldl addN L)
  | [], L => rfl
  | x :: M, L => by
    have e : putAll (dk L) (dk (x :: M)) = putAll (put1 x (.bool true) (dk L)) (dk M) := rfl
    rw [e, put1_dk, putAll_dk M, List.foldl_cons]
theorem dk_len (L : List Str) : (dk L).length = L.length := List.length_map _
theorem lookup_dk (L : List Str) (x : Str) : ((dk L).lookup x).isSome = decide (x ∈ L) := by
  induction L with
  | nil => rfl
  | cons y L ih =>
    have e : dk (y :: L) = (y, .bool true) :: dk L := rfl
    rw [e, List.lookup_cons]
    by_cases h : x = y
    · subst h; simp
    · have : (x == y) = false := by simpa using h
      rw [this]
      show ((dk L).lookup x).isSome = _
      rw [ih]; simp [h]
theorem keys_dk (L : List Str) : ((dk L).map fun x => PyData.str x.1) = L.map .str := by unfold dk; rw [List.map_map]; rfl
theorem fold_len : ∀ (M L : List Str), (M.foldl addN L).length ≤ L.length + M.length
  | [], L => Nat.le_refl _
  | x :: M, L => by
    have := fold_len M (addN L x)
    have := addN_len L x
    rw [List.foldl_cons, List.length_cons]; omega
theorem list_dct {σ : Store} {n : Nat} {kvs : List (Str × PyData)} (h : σ[n]? = some (.dct kvs)) (m : Bool) : biV .list m [.loc n] σ = mkList m (kvs.map fun x => .str x.1) σ := by
  have e : listOf σ (.loc n) = none := by
    show σ[n]?.bind lstC = _
    rw [h]; rfl
  show oc (listOf σ (.loc n)) (fun l => mkList m l σ) (oc (dctOf σ (.loc n)) (fun kvs => mkList m (kvs.map fun x => .str x.1) σ) .bad) = _
  rw [e, dctOf_loc h]; rfl
theorem meOk_upd {σ : Store} {n : Nat} {kvs : List (Str × PyData)} (h : σ[n]? = some (.dct kvs)) : meOk .update σ (.loc n) = true := by
  show (dctOf σ (.loc n)).isSome = true
  rw [dctOf_loc h]; rfl
theorem g0 (σ : Store) (a : Cell) (g : List Cell) : (σ ++ a :: g)[σ.length]? = some a := by simp
theorem g1 (σ : Store) (a b : Cell) (g : List Cell) : (σ ++ a :: b :: g)[σ.length + 1]? = some b := by simp
theorem st0 (σ : Store) (a a' : Cell) (g : List Cell) : (σ ++ a :: g).set σ.length a' = σ ++ a' :: g := by simp
theorem st1 (σ : Store) (a b b' : Cell) (g : List Cell) : (σ ++ a :: b :: g).set (σ.length + 1) b' = σ ++ a :: b' :: g := by simp
theorem notIn_dk {σ : Store} {n : Nat} {L : List Str} (h : σ[n]? = some (.dct (dk L))) (x : Str) : cmpV .notIn (.d (.str x)) (.loc n) σ = some (!decide (x ∈ L)) := by
  rw [c_notIn, in_dct x h, lookup_dk]; rfl

/-! own names of a row -/
theorem lF_eq (G : Nat → Option PyData) (cf : Nat → List V → Store → Res V) (i : Nat) (b : SL) (x : PyData) (ρ : Fm) (σ : Store) : loopF' G cf i b x ρ σ = execs G cf b (ρ.set i (.d x)) σ := byR rfl
noncomputable def putBody : SL := .cons (.put (.var 1) (.var 3) (.bool true)) (
      .nil)
theorem put_loop (cf : Nat → List V → Store → Res V) (v0 v2 : V) (σ : Store) : ∀ (ns F : List Str) (v3 : V), F.length + ns.length ≤ 1000 → ∃ v3', loopL (loopF' prog.G cf 3 putBody) (ns.map .str) [v0, .loc σ.length, v2, v3] (σ ++ [.dct (dk F)]) = .ok (.next [v0, .loc σ.length, v2, v3']) (σ ++ [.dct (dk (ns.foldl addN F))])
  | [], F, v3, _ => ⟨v3, by rw [List.map_nil, lo_nil]; rfl⟩
  | x :: ns, F, v3, hl => by
    rw [List.length_cons] at hl
    obtain ⟨v3', ih⟩ := put_loop cf v0 v2 σ ns (addN F x) (.d (.str x)) (by have := addN_len F x; omega)
    refine ⟨v3', ?_⟩
    have hlt : (dk F).length < LIM := by rw [dk_len]; unfold LIM; omega
    have body : loopF' prog.G cf 3 putBody (.str x) [v0, .loc σ.length, v2, v3] (σ ++ [.dct (dk F)]) = .ok (.next [v0, .loc σ.length, v2, .d (.str x)]) (σ ++ [.dct (dk (addN F x))]) := by
      show execs prog.G cf putBody [v0, .loc σ.length, v2, .d (.str x)] (σ ++ [.dct (dk F)]) = _
      unfold putBody
      simp only [rb_ok, lift_some, o_map, eE_none, eE_bool, eE_int, eE_str, eE_var, eE_glob, eE_bin, eE_neg, eE_not, eE_bop, eB_one, eB_more, eE_cmp, eE_cmp2, eE_ite, eE_tup, eE_list, eE_dict0, eE_dict1, eE_idx, eE_slc, eE_call, eE_bi, eE_meth, eE_freeze, eL_nil, eL_cons, eO_no, eO_yes, eI_seq, eI_range, x_expr, x_asg, x_ite, x_ret, x_pass, x_put, x_for, xs_nil, xs_cons, stepO_next, stepO_ret, look_d, look_loc, look_locs, negR_int, noneR_none, pick_tt, pick_tf, pick_ft, pick_ff, pickO_t, pickO_f, pickB_t, t_bool, b_add, b_sub, c_lt, c_eqI, c_eqS, c_neS, List.getElem?_cons_zero, List.getElem?_cons_succ, List.set_cons_zero, List.set_cons_succ, Bool.not_true, Bool.not_false, decide_true, decide_false, putR_ok _ _ (g0 σ (.dct (dk F)) []) hlt, st0, put1_dk]
    rw [List.map_cons, lo_cons, body, rb_ok, nextO_next, ih, List.foldl_cons]
noncomputable def addT (F : List Str) (t : Tm) : List Str := (gath t []).foldl addN F
noncomputable def namesBody : SL := .cons (.forr (.var 3) (.seq (.call i_names_in (.cons (.var 2) (.nil)))) putBody) (
    .nil)
theorem names_step {ws : List Str} (d : Nat) (v0 : V) (σ : Store) (t : Tm) (F : List Str) (v2 v3 : V) (ht : okN ws t) (hl : F.length ≤ 900) : ∃ v3', loopF' prog.G (callF prog (d + 4)) 2 namesBody (toD t) [v0, .loc σ.length, v2, v3] (σ ++ [.dct (dk F)]) = .ok (.next [v0, .loc σ.length, .d (toD t), v3']) (σ ++ [.dct (dk ((gath t []).foldl addN F))]) := by
  have gl := gath_len t []
  rw [List.length_nil, Nat.zero_add] at gl
  have h4 := ht.2.2
  have a1 : Mine.L03.ht t < d + 3 := Nat.lt_of_le_of_lt ht.2.1 (by omega)
  have b1 : leaves t ≤ 1000 := Nat.le_trans ht.2.2 (by decide)
  have e := call_names_in t (d + 3) (σ ++ [.dct (dk F)]) a1 b1
  have hln : F.length + (gath t []).length ≤ 1000 := by
    have : (gath t []).length ≤ 4 := Nat.le_trans gl h4
    omega
  obtain ⟨v3₁, lp⟩ := put_loop (callF prog (d + 4)) v0 (.d (toD t)) σ (gath t []) F v3 hln
  refine ⟨v3₁, ?_⟩
  rw [lF_eq, namesBody]
  simp only [rb_ok, lift_some, o_map, eE_none, eE_bool, eE_int, eE_str, eE_var, eE_glob, eE_bin, eE_neg, eE_not, eE_bop, eB_one, eB_more, eE_cmp, eE_cmp2, eE_ite, eE_tup, eE_list, eE_dict0, eE_dict1, eE_idx, eE_slc, eE_call, eE_bi, eE_meth, eE_freeze, eL_nil, eL_cons, eO_no, eO_yes, eI_seq, eI_range, x_expr, x_asg, x_ite, x_ret, x_pass, x_put, x_for, xs_nil, xs_cons, stepO_next, stepO_ret, look_d, look_loc, look_locs, negR_int, noneR_none, pick_tt, pick_tf, pick_ft, pick_ff, pickO_t, pickO_f, pickB_t, t_bool, b_add, b_sub, c_lt, c_eqI, c_eqS, c_neS, List.getElem?_cons_zero, List.getElem?_cons_succ, List.set_cons_zero, List.set_cons_succ, Bool.not_true, Bool.not_false, decide_true, decide_false, e, open_list, lock_none, unlock_none, lp]
theorem names_loop {ws : List Str} (d : Nat) (v0 : V) (σ : Store) (ts : List Tm) : ∀ (F : List Str) (v2 v3 : V), (∀ t ∈ ts, okN ws t) → F.length + ts.length * 4 ≤ 900 → ∃ v2' v3', loopL (loopF' prog.G (callF prog (d + 4)) 2 namesBody) (ts.map toD) [v0, .loc σ.length, v2, v3] (σ ++ [.dct (dk F)]) = .ok (.next [v0, .loc σ.length, v2', v3']) (σ ++ [.dct (dk (ts.foldl addT F))]) := by
  induction ts with
  | nil => intro F v2 v3 _ _; exact ⟨v2, v3, by rw [List.map_nil, lo_nil, List.foldl_nil]⟩
  | cons t ts ih =>
    intro F v2 v3 h hl
    rw [List.length_cons] at hl
    have ht := h t (List.mem_cons_self ..)
    have gl := gath_len t []
    rw [List.length_nil, Nat.zero_add] at gl
    have h4 := ht.2.2
    obtain ⟨v3₁, body⟩ := names_step d v0 σ t F v2 v3 ht (by omega)
    obtain ⟨v2', v3', ih⟩ := ih ((gath t []).foldl addN F) (.d (toD t)) v3₁ (fun u hu => h u (List.mem_cons_of_mem _ hu)) (by
      have := fold_len (gath t []) F; omega)
    refine ⟨v2', v3', ?_⟩
    rw [List.map_cons, lo_cons, body, rb_ok, nextO_next, ih, List.foldl_cons, addT]
noncomputable def ownK (r : Rw) : List Str := (termsOf r).foldl addT []
theorem call_own_names {ws : List Str} {r : Rw} (h : okR ws r) (d : Nat) (σ : Store) : callF prog (d + 5) i_own_names [.d (toR r)] σ = .ok (.d (.list ((ownK r).map .str))) σ := by
  obtain ⟨t1, t2⟩ := terms_ok h
  rw [callF_is (fn := f_own_names) rfl (d + 4) _ _ rfl]
  show (execs prog.G (callF prog (d + 4)) (.cons (.asg (.var 1) (.dict0)) (
  .cons (.forr (.var 2) (.seq (.call i_own_terms (.cons (.var 0) (.nil)))) namesBody) (
  .cons (.ret (.bi .list false (.cons (.var 1) (.nil)))) (
  .nil)))) [.d (toR r), .un, .un, .un] σ).bind (finR σ.length) = _
  obtain ⟨v2', v3', lp⟩ := names_loop (ws := ws) d (.d (toR r)) σ (termsOf r) [] .un .un t1 (by rw [List.length_nil]; omega)
  have e := call_own_terms r (d + 3) (σ ++ [.dct []])
  have lp : loopL (loopF' prog.G (callF prog (d + 4)) 2 namesBody) ((termsOf r).map toD) [.d (toR r), .loc σ.length, .un, .un] (σ ++ [.dct []]) = .ok (.next [.d (toR r), .loc σ.length, v2', v3']) (σ ++ [.dct (dk (ownK r))]) := lp
  simp only [rb_ok, lift_some, o_map, eE_none, eE_bool, eE_int, eE_str, eE_var, eE_glob, eE_bin, eE_neg, eE_not, eE_bop, eB_one, eB_more, eE_cmp, eE_cmp2, eE_ite, eE_tup, eE_list, eE_dict0, eE_dict1, eE_idx, eE_slc, eE_call, eE_bi, eE_meth, eE_freeze, eL_nil, eL_cons, eO_no, eO_yes, eI_seq, eI_range, x_expr, x_asg, x_ite, x_ret, x_pass, x_put, x_for, xs_nil, xs_cons, stepO_next, stepO_ret, look_d, look_loc, look_locs, negR_int, noneR_none, pick_tt, pick_tf, pick_ft, pick_ff, pickO_t, pickO_f, pickB_t, t_bool, b_add, b_sub, c_lt, c_eqI, c_eqS, c_neS, List.getElem?_cons_zero, List.getElem?_cons_succ, List.set_cons_zero, List.set_cons_succ, Bool.not_true, Bool.not_false, decide_true, decide_false, e, open_list, lock_none, unlock_none, lp, list_dct (g0 σ _ []), mkL_f, keys_dk, finR_ret, exit_snoc]

/-! surely set -/
mutual
noncomputable def sureR : Rw → List Str → List Str
  | .set x _, F => addN F x
  | .call o _ _, F => match o with
    | some x => addN F x
    | none => F
  | .aga n b, F => if n > 0 then (sureL b []).foldl addN F else F
  | .tell _, F => F
  | .whn _ _, F => F
noncomputable def sureL : RL → List Str → List Str
  | .nil, F => F
  | .cons r b, F => sureL b (sureR r F)
end
mutual
theorem sureR_len : ∀ (r : Rw) (F : List Str), (sureR r F).length ≤ F.length + nR r
  | .set x t, F => by rw [sureR]; exact addN_len F x
  | .call none f ts, F => Nat.le_add_right F.length 1
  | .call (some x) f ts, F => addN_len F x
  | .aga n b, F => by
    rw [sureR]
    have h1 := sureL_len b []
    rw [List.length_nil, Nat.zero_add] at h1
    have e : nR (.aga n b) = nL b + 1 := rfl
    split
    · have := fold_len (sureL b []) F; omega
    · omega
  | .tell t, F => by rw [sureR]; exact Nat.le_add_right ..
  | .whn t b, F => by rw [sureR]; exact Nat.le_add_right ..
theorem sureL_len : ∀ (b : RL) (F : List Str), (sureL b F).length ≤ F.length + nL b
  | .nil, F => by rw [sureL]; exact Nat.le_add_right ..
  | .cons r b, F => by
    rw [sureL]
    have h1 := sureR_len r F
    have h2 := sureL_len b (sureR r F)
    have e : nL (.cons r b) = nR r + nL b := rfl
    omega
end
noncomputable def sureIf1 : S := .ite (.cmp .isNotN (.call i_own_set (.cons (.var 2) (.nil))) (.none))
      (.cons (.put (.var 1) (.call i_own_set (.cons (.var 2) (.nil))) (.bool true)) (
      .nil))
      (.nil)
noncomputable def sureIf2 : S := .ite (.bop true (.cons (.cmp .eq (.idx (.var 2) (.int 0)) (.str s_again)) (.cons (.cmp .gt (.idx (.var 2) (.int 1)) (.int 0)) (.nil))))
      (.cons (.expr (.meth .update (.var 1) (.cons (.call i_surely_in (.cons (.idx (.var 2) (.int 2)) (.nil))) (.nil)))) (
      .nil))
      (.nil)
noncomputable def sureBody : SL := .cons sureIf1 (.cons sureIf2 .nil)
theorem isNN_none (σ : Store) : cmpV .isNotN (.d .none) (.d .none) σ = some false := byR rfl
theorem isNN_str (x : Str) (σ : Store) : cmpV .isNotN (.d (.str x)) (.d .none) σ = some true := byR rfl
noncomputable def addO (F : List Str) : Option Str → List Str
  | some x => addN F x
  | none => F
theorem sureR_eq (r : Rw) (F : List Str) : sureR r F = if isA r then (sureL (blk r) []).foldl addN (addO F (tgt r)) else addO F (tgt r) := by
  cases r with
  | call o f ts => cases o <;> rfl
  | aga n b =>
    rw [sureR]
    by_cases h : n > 0
    · rw [if_pos h, show isA (.aga n b) = true from decide_eq_true h]; rfl
    · rw [if_neg h, show isA (.aga n b) = false from decide_eq_false h]; rfl
  | _ => rfl
theorem isNN_opt (o : Option Str) (σ : Store) : cmpV .isNotN (.d (optS o)) (.d .none) σ = some o.isSome := by cases o <;> exact byR rfl
theorem sure_step (d : Nat) (v0 : V) (σ : Store) (F : List Str) (g : List Cell) (r : Rw) (hl : F.length + nR r ≤ 5000) (H : ∀ σ', callF prog (d + 1) i_surely_in [.d (.tuple (toRL (blk r)))] σ' = .ok (.loc σ'.length) (σ' ++ [.dct (dk (sureL (blk r) []))])) (v2 : V) :
    ∃ g', loopF' prog.G (callF prog (d + 1)) 2 sureBody (toR r) [v0, .loc σ.length, v2] (σ ++ .dct (dk F) :: g) = .ok (.next [v0, .loc σ.length, .d (toR r)]) (σ ++ .dct (dk (sureR r F)) :: g') := by
  show ∃ g', execs prog.G (callF prog (d + 1)) sureBody [v0, .loc σ.length, .d (toR r)] (σ ++ .dct (dk F) :: g) = _
  have hlt : (dk F).length < LIM := by rw [dk_len]; unfold LIM; omega
  have e : ∀ σ', callF prog (d + 1) i_own_set [.d (toR r)] σ' = .ok (.d (optS (tgt r))) σ' := fun σ' => call_own_set r d σ'
  have s1 : exec prog.G (callF prog (d + 1)) sureIf1 [v0, .loc σ.length, .d (toR r)] (σ ++ .dct (dk F) :: g) = .ok (.next [v0, .loc σ.length, .d (toR r)]) (σ ++ .dct (dk (addO F (tgt r))) :: g) := by
    have k : evalE prog.G (callF prog (d + 1)) (.cmp .isNotN (.call i_own_set (.cons (.var 2) (.nil))) (.none)) [v0, .loc σ.length, .d (toR r)] (σ ++ .dct (dk F) :: g) = .ok (.d (.bool (tgt r).isSome)) (σ ++ .dct (dk F) :: g) := by
      simp only [rb_ok, lift_some, o_map, eE_none, eE_bool, eE_int, eE_str, eE_var, eE_glob, eE_bin, eE_neg, eE_not, eE_bop, eB_one, eB_more, eE_cmp, eE_cmp2, eE_ite, eE_tup, eE_list, eE_dict0, eE_dict1, eE_idx, eE_slc, eE_call, eE_bi, eE_meth, eE_freeze, eL_nil, eL_cons, eO_no, eO_yes, eI_seq, eI_range, x_expr, x_asg, x_ite, x_ret, x_pass, x_put, x_for, xs_nil, xs_cons, stepO_next, stepO_ret, look_d, look_loc, look_locs, negR_int, noneR_none, pick_tt, pick_tf, pick_ft, pick_ff, pickO_t, pickO_f, pickB_t, t_bool, b_add, b_sub, c_lt, c_eqI, c_eqS, c_neS, List.getElem?_cons_zero, List.getElem?_cons_succ, List.set_cons_zero, List.set_cons_succ, Bool.not_true, Bool.not_false, decide_true, decide_false, e, isNN_opt]
    cases ht : tgt r with
    | none => rw [ht] at k; exact (ite_f k).trans (xs_nil ..)
    | some x =>
      rw [ht] at k e
      refine (ite_t k).trans ?_
      simp only [rb_ok, lift_some, o_map, eE_none, eE_bool, eE_int, eE_str, eE_var, eE_glob, eE_bin, eE_neg, eE_not, eE_bop, eB_one, eB_more, eE_cmp, eE_cmp2, eE_ite, eE_tup, eE_list, eE_dict0, eE_dict1, eE_idx, eE_slc, eE_call, eE_bi, eE_meth, eE_freeze, eL_nil, eL_cons, eO_no, eO_yes, eI_seq, eI_range, x_expr, x_asg, x_ite, x_ret, x_pass, x_put, x_for, xs_nil, xs_cons, stepO_next, stepO_ret, look_d, look_loc, look_locs, negR_int, noneR_none, pick_tt, pick_tf, pick_ft, pick_ff, pickO_t, pickO_f, pickB_t, t_bool, b_add, b_sub, c_lt, c_eqI, c_eqS, c_neS, List.getElem?_cons_zero, List.getElem?_cons_succ, List.set_cons_zero, List.set_cons_succ, Bool.not_true, Bool.not_false, decide_true, decide_false, e, optS, putR_ok _ _ (g0 σ (.dct (dk F)) g) hlt, st0, put1_dk]; rfl
  have hF1 : (addO F (tgt r)).length ≤ F.length + 1 := by
    cases tgt r with
    | none => exact Nat.le_succ _
    | some x => exact addN_len F x
  unfold sureBody
  rw [seq_next s1, sureR_eq]
  generalize addO F (tgt r) = F1 at *
  have k := cnd_A (cf := callF prog (d + 1)) (ρ := [v0, .loc σ.length, .d (toR r)]) (σ := σ ++ .dct (dk F1) :: g) (j := 2) (r := r) rfl
  cases ha : isA r with
  | false =>
    rw [ha] at k
    exact ⟨g, (seq_next ((ite_f k).trans (xs_nil ..))).trans (xs_nil ..)⟩
  | true =>
    rw [ha] at k
    have sl := sureL_len (blk r) []
    have en := blk_n r
    rw [List.length_nil, Nat.zero_add] at sl
    have H := H (σ ++ .dct (dk F1) :: g)
    have up : meV .update (.loc σ.length) [.loc (σ ++ .dct (dk F1) :: g).length] ((σ ++ .dct (dk F1) :: g) ++ [.dct (dk (sureL (blk r) []))]) = .ok (.d .none) (σ ++ .dct (dk ((sureL (blk r) []).foldl addN F1)) :: (g ++ [.dct (dk (sureL (blk r) []))])) := by
      rw [update_ok (x := dk F1) (y := dk (sureL (blk r) [])) (by rw [List.append_assoc]; exact g0 ..) (snoc_get _ _) (by simp) (by rw [dk_len, dk_len]; unfold LIM; omega), putAll_dk, List.append_assoc]
      exact congrArg _ (st0 ..)
    refine ⟨g ++ [.dct (dk (sureL (blk r) []))], (seq_next ((ite_t k).trans ?_)).trans (xs_nil ..)⟩
    simp only [rb_ok, lift_some, o_map, eE_none, eE_bool, eE_int, eE_str, eE_var, eE_glob, eE_bin, eE_neg, eE_not, eE_bop, eB_one, eB_more, eE_cmp, eE_cmp2, eE_ite, eE_tup, eE_list, eE_dict0, eE_dict1, eE_idx, eE_slc, eE_call, eE_bi, eE_meth, eE_freeze, eL_nil, eL_cons, eO_no, eO_yes, eI_seq, eI_range, x_expr, x_asg, x_ite, x_ret, x_pass, x_put, x_for, xs_nil, xs_cons, stepO_next, stepO_ret, look_d, look_loc, look_locs, negR_int, noneR_none, pick_tt, pick_tf, pick_ft, pick_ff, pickO_t, pickO_f, pickB_t, t_bool, b_add, b_sub, c_lt, c_eqI, c_eqS, c_neS, List.getElem?_cons_zero, List.getElem?_cons_succ, List.set_cons_zero, List.set_cons_succ, Bool.not_true, Bool.not_false, decide_true, decide_false, row_2 r (isA_B ha), meOk_upd (g0 σ (.dct (dk F1)) g), H, up]; rfl
theorem sure_loop (d : Nat) (v0 : V) (σ : Store) : ∀ (b : RL) (F : List Str) (g : List Cell) (v2 : V), F.length + nL b ≤ 5000 → (∀ r ∈ lst b, ∀ σ', callF prog (d + 1) i_surely_in [.d (.tuple (toRL (blk r)))] σ' = .ok (.loc σ'.length) (σ' ++ [.dct (dk (sureL (blk r) []))])) →
    ∃ v2' g', loopL (loopF' prog.G (callF prog (d + 1)) 2 sureBody) (toRL b) [v0, .loc σ.length, v2] (σ ++ .dct (dk F) :: g) = .ok (.next [v0, .loc σ.length, v2']) (σ ++ .dct (dk (sureL b F)) :: g')
  | .nil, F, g, v2, _, _ => ⟨v2, g, by rw [sureL]; rfl⟩
  | .cons r b, F, g, v2, hl, H => by
    have en : nL (.cons r b) = nR r + nL b := rfl
    obtain ⟨g₁, st⟩ := sure_step d v0 σ F g r (by omega) (H r (List.mem_cons_self ..)) v2
    have h1 := sureR_len r F
    obtain ⟨v2', g', ih⟩ := sure_loop d v0 σ b (sureR r F) g₁ (.d (toR r)) (by omega) fun r hr => H r (List.mem_cons_of_mem _ hr)
    refine ⟨v2', g', ?_⟩
    have el : toRL (.cons r b) = toR r :: toRL b := rfl
    rw [el, lo_cons, st, rb_ok, nextO_next, ih, sureL]
theorem exit_dcts (σ : Store) (l : List (Str × PyData)) (g : List Cell) : exitV σ.length (.loc σ.length) (σ ++ .dct l :: g) = .ok (.loc σ.length) (σ ++ [.dct l]) := by
  unfold exitV
  show (if σ.length < σ.length then _ else _) = _
  rw [if_neg (Nat.lt_irrefl _), g0]
  show Res.ok _ (List.take σ.length (σ ++ _) ++ _) = _
  rw [List.take_left' rfl]
theorem call_surely : ∀ (h : Nat) (b : RL) (d : Nat) (σ : Store), hL b ≤ h → nL b ≤ 5000 → callF prog (d + h + 3) i_surely_in [.d (.tuple (toRL b))] σ = .ok (.loc σ.length) (σ ++ [.dct (dk (sureL b []))]) := by
  have core : ∀ (b : RL) (d : Nat) (σ : Store), nL b ≤ 5000 → (∀ r ∈ lst b, ∀ σ', callF prog (d + 1) i_surely_in [.d (.tuple (toRL (blk r)))] σ' = .ok (.loc σ'.length) (σ' ++ [.dct (dk (sureL (blk r) []))])) → callF prog (d + 2) i_surely_in [.d (.tuple (toRL b))] σ = .ok (.loc σ.length) (σ ++ [.dct (dk (sureL b []))]) := by
    intro b d σ hn H
    rw [callF_is (fn := f_surely_in) rfl (d + 1) _ _ rfl]
    show (execs prog.G (callF prog (d + 1)) (.cons (.asg (.var 1) (.dict0)) (.cons (.forr (.var 2) (.seq (.var 0)) sureBody) (.cons (.ret (.var 1)) (.nil)))) [.d (.tuple (toRL b)), .un, .un] σ).bind (finR σ.length) = _
    obtain ⟨v2', g', lp⟩ := sure_loop d (.d (.tuple (toRL b))) σ b [] [] .un (by rw [List.length_nil]; omega) H
    have lp : loopL (loopF' prog.G (callF prog (d + 1)) 2 sureBody) (toRL b) [.d (.tuple (toRL b)), .loc σ.length, .un] (σ ++ [.dct []]) = .ok (.next [.d (.tuple (toRL b)), .loc σ.length, v2']) (σ ++ .dct (dk (sureL b [])) :: g') := lp
    simp only [rb_ok, lift_some, o_map, eE_none, eE_bool, eE_int, eE_str, eE_var, eE_glob, eE_bin, eE_neg, eE_not, eE_bop, eB_one, eB_more, eE_cmp, eE_cmp2, eE_ite, eE_tup, eE_list, eE_dict0, eE_dict1, eE_idx, eE_slc, eE_call, eE_bi, eE_meth, eE_freeze, eL_nil, eL_cons, eO_no, eO_yes, eI_seq, eI_range, x_expr, x_asg, x_ite, x_ret, x_pass, x_put, x_for, xs_nil, xs_cons, stepO_next, stepO_ret, look_d, look_loc, look_locs, negR_int, noneR_none, pick_tt, pick_tf, pick_ft, pick_ff, pickO_t, pickO_f, pickB_t, t_bool, b_add, b_sub, c_lt, c_eqI, c_eqS, c_neS, List.getElem?_cons_zero, List.getElem?_cons_succ, List.set_cons_zero, List.set_cons_succ, Bool.not_true, Bool.not_false, decide_true, decide_false, open_tup, lock_none, unlock_none, lp, finR_ret, exit_dcts]
  intro h
  have nR_le : ∀ (b : RL) (r : Rw), r ∈ lst b → nR r ≤ nL b := by
    intro b r hr
    rw [nL_lst]
    generalize lst b = l at hr
    induction l with
    | nil => cases hr
    | cons a l ih =>
      rw [List.map_cons, List.sum_cons]
      rcases List.mem_cons.mp hr with rfl | hr
      · exact Nat.le_add_right ..
      · exact Nat.le_trans (ih hr) (Nat.le_add_left ..)
  induction h with
  | zero =>
    intro b d σ hh hn
    refine core b (d + 1) σ hn fun r hr σ' => ?_
    have hz : hR r = 0 := Nat.le_zero.mp (Nat.le_trans (hL_lst hr) hh)
    have hb : blk r = .nil := by
      cases r with
      | whn t b => exact absurd hz (Nat.succ_ne_zero _)
      | aga t b => exact absurd hz (Nat.succ_ne_zero _)
      | _ => rfl
    rw [hb]
    exact core .nil d σ' (Nat.zero_le _) fun r hr => by cases hr
  | succ h ih =>
    intro b d σ hh hn
    have e : d + (h + 1) + 3 = (d + h + 2) + 2 := by omega
    rw [e]
    refine core b (d + h + 2) σ hn fun r hr σ' => ?_
    have hbh : hL (blk r) ≤ h := by
      have h1 := hL_lst hr
      cases r with
      | whn t b => show hL b ≤ h; have : hL b + 1 ≤ _ := h1; omega
      | aga t b => show hL b ≤ h; have : hL b + 1 ≤ _ := h1; omega
      | _ => exact Nat.zero_le _
    exact ih (blk r) d σ' hbh (by have := nR_le b r hr; have := blk_n r; omega)
end Mine.L03

set_option autoImplicit false
set_option linter.unusedVariables false
set_option linter.unusedSimpArgs false
namespace Mine.L03
open PySem Mine

theorem eq_refl_strs (L : List Str) : (PyData.list (L.map .str)).eqv (.list (L.map .str)) = true := by
  have : ∀ L : List Str, PyData.eqvAll (L.map .str) (L.map .str) = true := by
    intro L
    induction L with
    | nil => rfl
    | cons x L ih => rw [List.map_cons, eA_cons, ih, eqv_str, decide_eq_true rfl]; rfl
  rw [eqv_list]; exact this L
theorem depth_strs (L : List Str) : (PyData.list (L.map .str)).depth ≤ 3 := by
  have : ∀ L : List Str, PyData.depthAll (L.map .str) ≤ 1 := by
    intro L
    induction L with
    | nil => exact Nat.zero_le _
    | cons x L ih => rw [List.map_cons, dA_cons, depth_str]; omega
  have := this L
  rw [depth_list]; omega
theorem eq_box {σ : Store} {n : Nat} {L : List Str} (h : σ[n]? = some (.lst (L.map .str))) : eqV σ (.loc n) (.d (.list (L.map .str))) = some true := by
  have := depth_strs L
  rw [eqV_loc h, eqD_flat (by omega), eq_refl_strs]

theorem eq_box' {σ : Store} {n : Nat} {L : List Str} (h : σ[n]? = some (.lst (L.map .str))) : cmpV .eq (.loc n) (.d (.list (L.map .str))) σ = some true := eq_box h
/-! first read -/
noncomputable def addF (K : List Str) (F : List Str) (x : Str) : List Str := if x ∈ K then F else addN F x
theorem addF_len (K F : List Str) (x : Str) : (addF K F x).length ≤ F.length + 1 := by
  unfold addF; split
  · exact Nat.le_succ _
  · exact addN_len F x
theorem foldF_len (K : List Str) : ∀ (M F : List Str), (M.foldl (addF K) F).length ≤ F.length + M.length
  | [], F => Nat.le_refl _
  | x :: M, F => by
    have := foldF_len K M (addF K F x)
    have := addF_len K F x
    rw [List.foldl_cons, List.length_cons]; omega
mutual
noncomputable def namR : Rw → List Str
  | .set x t => ownK (.set x t)
  | .tell t => ownK (.tell t)
  | .call o f ts => ownK (.call o f ts)
  | .whn t b => ownK (.whn t b) ++ firstL b [] []
  | .aga n b => ownK (.aga n b) ++ if n > 0 then firstL b [] [] else []
noncomputable def firstL : RL → List Str → List Str → List Str
  | .nil, F, _ => F
  | .cons r b, F, K => firstL b ((namR r).foldl (addF K) F) ((sureR r []).foldl addN K)
end
theorem addT_len {ws : List Str} : ∀ (ts : List Tm) (F : List Str), (∀ t ∈ ts, okN ws t) → (ts.foldl addT F).length ≤ F.length + ts.length * 4
  | [], F, _ => Nat.le_add_right ..
  | t :: ts, F, h => by
    have h1 := addT_len (ws := ws) ts (addT F t) fun u hu => h u (List.mem_cons_of_mem _ hu)
    have h2 := fold_len (gath t []) F
    have h3 := gath_len t []
    have h4 := (h t (List.mem_cons_self ..)).2.2
    have e : addT F t = (gath t []).foldl addN F := rfl
    rw [List.length_nil, Nat.zero_add] at h3
    rw [List.foldl_cons, List.length_cons]
    rw [← e] at h2
    omega
theorem ownK_len {ws : List Str} {r : Rw} (h : okR ws r) : (ownK r).length ≤ 16 := by
  obtain ⟨h1, h2⟩ := terms_ok h
  have := addT_len (ws := ws) (termsOf r) [] h1
  have e : ownK r = (termsOf r).foldl addT [] := rfl
  rw [List.length_nil] at this
  rw [e]; omega
mutual
theorem namR_len {ws : List Str} : ∀ (r : Rw), okR ws r → (namR r).length ≤ 20 * nR r
  | .set x t, h => by have := ownK_len h; have e : namR (.set x t) = ownK (.set x t) := by rw [namR]
                      rw [e]; show _ ≤ 20 * 1; omega
  | .tell t, h => by have := ownK_len (r := .tell t) h; have e : namR (.tell t) = ownK (.tell t) := by rw [namR]
                     rw [e]; show _ ≤ 20 * 1; omega
  | .call o f ts, h => by have := ownK_len (r := .call o f ts) h; have e : namR (.call o f ts) = ownK (.call o f ts) := by rw [namR]
                          rw [e]; show _ ≤ 20 * 1; omega
  | .whn t b, h => by
    have h1 := ownK_len (r := .whn t b) h
    have h2 := firstL_len b [] [] h.2
    have e : namR (.whn t b) = ownK (.whn t b) ++ firstL b [] [] := by rw [namR]
    have en : nR (.whn t b) = nL b + 1 := rfl
    rw [List.length_nil] at h2
    rw [e, List.length_append, en]; omega
  | .aga n b, h => by
    have h1 := ownK_len (r := .aga n b) h
    have h2 := firstL_len b [] [] h
    have e : namR (.aga n b) = ownK (.aga n b) ++ if n > 0 then firstL b [] [] else [] := by rw [namR]
    have en : nR (.aga n b) = nL b + 1 := rfl
    rw [List.length_nil] at h2
    rw [e, List.length_append, en]
    split
    · omega
    · rw [List.length_nil]; omega
theorem firstL_len {ws : List Str} : ∀ (b : RL) (F K : List Str), okL ws b → (firstL b F K).length ≤ F.length + 20 * nL b
  | .nil, F, K, _ => by rw [firstL]; exact Nat.le_add_right ..
  | .cons r b, F, K, h => by
    have h1 := namR_len r h.1
    have h2 := firstL_len b ((namR r).foldl (addF K) F) ((sureR r []).foldl addN K) h.2
    have h3 := foldF_len K (namR r) F
    have en : nL (.cons r b) = nR r + nL b := rfl
    rw [firstL, en]; omega
end
noncomputable def readBody : SL := .cons (.ite (.cmp .notIn (.var 5) (.var 2))
        (.cons (.put (.var 1) (.var 5) (.bool true)) (
        .nil))
        (.nil)) (
      .nil)
theorem read_loop (cf : Nat → List V → Store → Res V) (v0 v3 v4 : V) (σ : Store) (K : List Str) (g : List Cell) (ns : List Str) : ∀ (F : List Str) (v5 : V), F.length + ns.length ≤ 100000 → ∃ v5', loopL (loopF' prog.G cf 5 readBody) (ns.map .str) [v0, .loc σ.length, .loc (σ.length + 1), v3, v4, v5] (σ ++ .dct (dk F) :: .dct (dk K) :: g) = .ok (.next [v0, .loc σ.length, .loc (σ.length + 1), v3, v4, v5']) (σ ++ .dct (dk (ns.foldl (addF K) F)) :: .dct (dk K) :: g) := by
  induction ns with
  | nil => intro F v5 _; exact ⟨v5, by rw [List.map_nil, lo_nil, List.foldl_nil]⟩
  | cons x ns ih =>
    intro F v5 hl
    rw [List.length_cons] at hl
    obtain ⟨v5', ih⟩ := ih (addF K F x) (.d (.str x)) (by have := addF_len K F x; omega)
    refine ⟨v5', ?_⟩
    have hlt : (dk F).length < LIM := by rw [dk_len]; unfold LIM; omega
    have body : loopF' prog.G cf 5 readBody (.str x) [v0, .loc σ.length, .loc (σ.length + 1), v3, v4, v5] (σ ++ .dct (dk F) :: .dct (dk K) :: g) = .ok (.next [v0, .loc σ.length, .loc (σ.length + 1), v3, v4, .d (.str x)]) (σ ++ .dct (dk (addF K F x)) :: .dct (dk K) :: g) := by
      rw [lF_eq, readBody]
      by_cases h : x ∈ K
      · simp only [rb_ok, lift_some, o_map, eE_none, eE_bool, eE_int, eE_str, eE_var, eE_glob, eE_bin, eE_neg, eE_not, eE_bop, eB_one, eB_more, eE_cmp, eE_cmp2, eE_ite, eE_tup, eE_list, eE_dict0, eE_dict1, eE_idx, eE_slc, eE_call, eE_bi, eE_meth, eE_freeze, eL_nil, eL_cons, eO_no, eO_yes, eI_seq, eI_range, x_expr, x_asg, x_ite, x_ret, x_pass, x_put, x_for, xs_nil, xs_cons, stepO_next, stepO_ret, look_d, look_loc, look_locs, negR_int, noneR_none, pick_tt, pick_tf, pick_ft, pick_ff, pickO_t, pickO_f, pickB_t, t_bool, b_add, b_sub, c_lt, c_eqI, c_eqS, c_neS, List.getElem?_cons_zero, List.getElem?_cons_succ, List.set_cons_zero, List.set_cons_succ, Bool.not_true, Bool.not_false, decide_true, decide_false, notIn_dk (g1 σ (.dct (dk F)) (.dct (dk K)) g), decide_eq_true h, addF, if_pos h]
      · simp only [rb_ok, lift_some, o_map, eE_none, eE_bool, eE_int, eE_str, eE_var, eE_glob, eE_bin, eE_neg, eE_not, eE_bop, eB_one, eB_more, eE_cmp, eE_cmp2, eE_ite, eE_tup, eE_list, eE_dict0, eE_dict1, eE_idx, eE_slc, eE_call, eE_bi, eE_meth, eE_freeze, eL_nil, eL_cons, eO_no, eO_yes, eI_seq, eI_range, x_expr, x_asg, x_ite, x_ret, x_pass, x_put, x_for, xs_nil, xs_cons, stepO_next, stepO_ret, look_d, look_loc, look_locs, negR_int, noneR_none, pick_tt, pick_tf, pick_ft, pick_ff, pickO_t, pickO_f, pickB_t, t_bool, b_add, b_sub, c_lt, c_eqI, c_eqS, c_neS, List.getElem?_cons_zero, List.getElem?_cons_succ, List.set_cons_zero, List.set_cons_succ, Bool.not_true, Bool.not_false, decide_true, decide_false, notIn_dk (g1 σ (.dct (dk F)) (.dct (dk K)) g), decide_eq_false h, putR_ok _ _ (g0 σ (.dct (dk F)) (.dct (dk K) :: g)) hlt, st0, put1_dk, addF, if_neg h]
    rw [List.map_cons, lo_cons, body, rb_ok, nextO_next, ih, List.foldl_cons]
noncomputable def firstIf : S := .ite (.bop false (.cons (.cmp .eq (.idx (.var 3) (.int 0)) (.str s_when)) (.cons (.bop true (.cons (.cmp .eq (.idx (.var 3) (.int 0)) (.str s_again)) (.cons (.cmp .gt (.idx (.var 3) (.int 1)) (.int 0)) (.nil)))) (.nil))))
      (.cons (.asg (.var 4) (.bin .add false (.var 4) (.bi .list false (.cons (.call i_first_in (.cons (.idx (.var 3) (.int 2)) (.nil))) (.nil))))) (
      .nil))
      (.nil)
noncomputable def firstEnd : S := .expr (.meth .update (.var 2) (.cons (.call i_surely_in (.cons (.tup (.cons (.var 3) (.nil))) (.nil))) (.nil)))
noncomputable def firstBody : SL := .cons (.asg (.var 4) (.call i_own_names (.cons (.var 3) (.nil)))) (
    .cons firstIf (
    .cons (.forr (.var 5) (.seq (.var 4)) readBody) (
    .cons firstEnd (
    .nil))))
theorem namR_eq (r : Rw) : namR r = if isW r then ownK r ++ firstL (blk r) [] [] else ownK r := by
  cases r with
  | aga n b =>
    rw [namR]
    by_cases h : n > 0
    · rw [if_pos h, show isW (.aga n b) = true from decide_eq_true h]; rfl
    · rw [if_neg h, show isW (.aga n b) = false from decide_eq_false h, List.append_nil]; rfl
  | whn t b => rw [namR]; rfl
  | set x t => rw [namR]; rfl
  | tell t => rw [namR]; rfl
  | call o f ts => rw [namR]; rfl
theorem isW_h {r : Rw} (h : isW r = true) : 0 < hR r := by
  cases r with
  | aga n b => exact Nat.succ_pos _
  | whn t b => exact Nat.succ_pos _
  | _ => cases h
theorem first_if {ws : List Str} (d : Nat) (v0 v1 v2 v5 : V) (σ : Store) (r : Rw) (hr : okR ws r) (hn : nR r ≤ 1000) (H : 0 < hR r → callF prog d i_first_in [.d (.tuple (toRL (blk r)))] σ = .ok (.loc σ.length) (σ ++ [.dct (dk (firstL (blk r) [] []))])) :
    ∃ g, exec prog.G (callF prog d) firstIf [v0, v1, v2, .d (toR r), .d (.list ((ownK r).map .str)), v5] σ = .ok (.next [v0, v1, v2, .d (toR r), .d (.list ((namR r).map .str)), v5]) (σ ++ g) := by
  have ol := ownK_len hr
  have k := cnd_W (cf := callF prog d) (ρ := [v0, v1, v2, .d (toR r), .d (.list ((ownK r).map .str)), v5]) (σ := σ) (j := 3) (r := r) rfl
  rw [namR_eq]
  cases hw : isW r with
  | false =>
    rw [hw] at k
    exact ⟨[], by rw [List.append_nil]; exact (ite_f k).trans (xs_nil ..)⟩
  | true =>
    rw [hw] at k
    have H := H (isW_h hw)
    have fl := firstL_len (blk r) [] [] (blk_ok hr)
    have en := blk_n r
    rw [List.length_nil] at fl
    have hl2 : ((ownK r).map PyData.str).length + ((firstL (blk r) [] []).map PyData.str).length ≤ LIM := by rw [List.length_map, List.length_map]; unfold LIM; omega
    refine ⟨[.dct (dk (firstL (blk r) [] []))], (ite_t k).trans ?_⟩
    simp only [rb_ok, lift_some, o_map, eE_none, eE_bool, eE_int, eE_str, eE_var, eE_glob, eE_bin, eE_neg, eE_not, eE_bop, eB_one, eB_more, eE_cmp, eE_cmp2, eE_ite, eE_tup, eE_list, eE_dict0, eE_dict1, eE_idx, eE_slc, eE_call, eE_bi, eE_meth, eE_freeze, eL_nil, eL_cons, eO_no, eO_yes, eI_seq, eI_range, x_expr, x_asg, x_ite, x_ret, x_pass, x_put, x_for, xs_nil, xs_cons, stepO_next, stepO_ret, look_d, look_loc, look_locs, negR_int, noneR_none, pick_tt, pick_tf, pick_ft, pick_ff, pickO_t, pickO_f, pickB_t, t_bool, b_add, b_sub, c_lt, c_eqI, c_eqS, c_neS, List.getElem?_cons_zero, List.getElem?_cons_succ, List.set_cons_zero, List.set_cons_succ, Bool.not_true, Bool.not_false, decide_true, decide_false, row_2 r (isW_B hw), H, list_dct (snoc_get _ _), mkL_f, keys_dk, b_addL hl2, if_true, List.map_append]
theorem first_step {ws : List Str} (d h : Nat) (v0 : V) (σ : Store) (F K : List Str) (g : List Cell) (r : Rw) (hr : okR ws r) (hh : hR r ≤ h) (hl : F.length + 20 * nR r ≤ 50000) (hk : K.length + nR r ≤ 1000)
    (H : ∀ σ', 0 < hR r → callF prog (d + h + 5) i_first_in [.d (.tuple (toRL (blk r)))] σ' = .ok (.loc σ'.length) (σ' ++ [.dct (dk (firstL (blk r) [] []))])) (v3 v4 v5 : V) :
    ∃ v4' v5' g', loopF' prog.G (callF prog (d + h + 5)) 3 firstBody (toR r) [v0, .loc σ.length, .loc (σ.length + 1), v3, v4, v5] (σ ++ .dct (dk F) :: .dct (dk K) :: g) = .ok (.next [v0, .loc σ.length, .loc (σ.length + 1), .d (toR r), v4', v5']) (σ ++ .dct (dk ((namR r).foldl (addF K) F)) :: .dct (dk ((sureR r []).foldl addN K)) :: g') := by
  have nl := namR_len r hr
  have s1 : exec prog.G (callF prog (d + h + 5)) (.asg (.var 4) (.call i_own_names (.cons (.var 3) (.nil)))) [v0, .loc σ.length, .loc (σ.length + 1), .d (toR r), v4, v5] (σ ++ .dct (dk F) :: .dct (dk K) :: g) = .ok (.next [v0, .loc σ.length, .loc (σ.length + 1), .d (toR r), .d (.list ((ownK r).map .str)), v5]) (σ ++ .dct (dk F) :: .dct (dk K) :: g) := by
    have e := call_own_names hr (d + h) (σ ++ .dct (dk F) :: .dct (dk K) :: g)
    simp only [rb_ok, lift_some, o_map, eE_none, eE_bool, eE_int, eE_str, eE_var, eE_glob, eE_bin, eE_neg, eE_not, eE_bop, eB_one, eB_more, eE_cmp, eE_cmp2, eE_ite, eE_tup, eE_list, eE_dict0, eE_dict1, eE_idx, eE_slc, eE_call, eE_bi, eE_meth, eE_freeze, eL_nil, eL_cons, eO_no, eO_yes, eI_seq, eI_range, x_expr, x_asg, x_ite, x_ret, x_pass, x_put, x_for, xs_nil, xs_cons, stepO_next, stepO_ret, look_d, look_loc, look_locs, negR_int, noneR_none, pick_tt, pick_tf, pick_ft, pick_ff, pickO_t, pickO_f, pickB_t, t_bool, b_add, b_sub, c_lt, c_eqI, c_eqS, c_neS, List.getElem?_cons_zero, List.getElem?_cons_succ, List.set_cons_zero, List.set_cons_succ, Bool.not_true, Bool.not_false, decide_true, decide_false, e]
  obtain ⟨g₁, s2⟩ := first_if (d + h + 5) v0 (.loc σ.length) (.loc (σ.length + 1)) v5 (σ ++ .dct (dk F) :: .dct (dk K) :: g) r hr (by omega) (H _)
  have ea : (σ ++ .dct (dk F) :: .dct (dk K) :: g) ++ g₁ = σ ++ .dct (dk F) :: .dct (dk K) :: (g ++ g₁) := by simp
  rw [ea] at s2
  obtain ⟨v5', lp⟩ := read_loop (callF prog (d + h + 5)) v0 (.d (toR r)) (.d (.list ((namR r).map .str))) σ K (g ++ g₁) (namR r) F v5 (by omega)
  have s3 : exec prog.G (callF prog (d + h + 5)) (.forr (.var 5) (.seq (.var 4)) readBody) [v0, .loc σ.length, .loc (σ.length + 1), .d (toR r), .d (.list ((namR r).map .str)), v5] (σ ++ .dct (dk F) :: .dct (dk K) :: (g ++ g₁)) = .ok (.next [v0, .loc σ.length, .loc (σ.length + 1), .d (toR r), .d (.list ((namR r).map .str)), v5']) (σ ++ .dct (dk ((namR r).foldl (addF K) F)) :: .dct (dk K) :: (g ++ g₁)) := by
    simp only [rb_ok, lift_some, o_map, eE_none, eE_bool, eE_int, eE_str, eE_var, eE_glob, eE_bin, eE_neg, eE_not, eE_bop, eB_one, eB_more, eE_cmp, eE_cmp2, eE_ite, eE_tup, eE_list, eE_dict0, eE_dict1, eE_idx, eE_slc, eE_call, eE_bi, eE_meth, eE_freeze, eL_nil, eL_cons, eO_no, eO_yes, eI_seq, eI_range, x_expr, x_asg, x_ite, x_ret, x_pass, x_put, x_for, xs_nil, xs_cons, stepO_next, stepO_ret, look_d, look_loc, look_locs, negR_int, noneR_none, pick_tt, pick_tf, pick_ft, pick_ff, pickO_t, pickO_f, pickB_t, t_bool, b_add, b_sub, c_lt, c_eqI, c_eqS, c_neS, List.getElem?_cons_zero, List.getElem?_cons_succ, List.set_cons_zero, List.set_cons_succ, Bool.not_true, Bool.not_false, decide_true, decide_false, open_list, lock_none, unlock_none, lp]
  generalize (namR r).foldl (addF K) F = F' at *
  have en : nL (.cons r .nil) = nR r := rfl
  have sr := sureR_len r []
  rw [List.length_nil, Nat.zero_add] at sr
  have su : callF prog (d + h + 5) i_surely_in [.d (.tuple [toR r])] (σ ++ .dct (dk F') :: .dct (dk K) :: (g ++ g₁)) = .ok (.loc (σ ++ .dct (dk F') :: .dct (dk K) :: (g ++ g₁)).length) ((σ ++ .dct (dk F') :: .dct (dk K) :: (g ++ g₁)) ++ [.dct (dk (sureR r []))]) := by
    have e := call_surely h (.cons r .nil) (d + 2) (σ ++ .dct (dk F') :: .dct (dk K) :: (g ++ g₁)) (Nat.max_le.mpr ⟨hh, Nat.zero_le _⟩) (by rw [en]; omega)
    have ed : d + 2 + h + 3 = d + h + 5 := by omega
    have es : sureL (.cons r .nil) [] = sureR r [] := by rw [sureL, sureL]
    rw [ed, es] at e
    exact e
  have up : meV .update (.loc (σ.length + 1)) [.loc (σ ++ .dct (dk F') :: .dct (dk K) :: (g ++ g₁)).length] ((σ ++ .dct (dk F') :: .dct (dk K) :: (g ++ g₁)) ++ [.dct (dk (sureR r []))]) = .ok (.d .none) (σ ++ .dct (dk F') :: .dct (dk ((sureR r []).foldl addN K)) :: (g ++ g₁ ++ [.dct (dk (sureR r []))])) := by
    rw [update_ok (x := dk K) (y := dk (sureR r [])) (by rw [List.append_assoc]; exact g1 ..) (snoc_get _ _) (by simp) (by rw [dk_len, dk_len]; unfold LIM; omega), putAll_dk, List.append_assoc]
    exact congrArg _ (st1 ..)
  have s4 : exec prog.G (callF prog (d + h + 5)) firstEnd [v0, .loc σ.length, .loc (σ.length + 1), .d (toR r), .d (.list ((namR r).map .str)), v5'] (σ ++ .dct (dk F') :: .dct (dk K) :: (g ++ g₁)) = .ok (.next [v0, .loc σ.length, .loc (σ.length + 1), .d (toR r), .d (.list ((namR r).map .str)), v5']) (σ ++ .dct (dk F') :: .dct (dk ((sureR r []).foldl addN K)) :: (g ++ g₁ ++ [.dct (dk (sureR r []))])) := by
    unfold firstEnd
    simp only [rb_ok, lift_some, o_map, eE_none, eE_bool, eE_int, eE_str, eE_var, eE_glob, eE_bin, eE_neg, eE_not, eE_bop, eB_one, eB_more, eE_cmp, eE_cmp2, eE_ite, eE_tup, eE_list, eE_dict0, eE_dict1, eE_idx, eE_slc, eE_call, eE_bi, eE_meth, eE_freeze, eL_nil, eL_cons, eO_no, eO_yes, eI_seq, eI_range, x_expr, x_asg, x_ite, x_ret, x_pass, x_put, x_for, xs_nil, xs_cons, stepO_next, stepO_ret, look_d, look_loc, look_locs, negR_int, noneR_none, pick_tt, pick_tf, pick_ft, pick_ff, pickO_t, pickO_f, pickB_t, t_bool, b_add, b_sub, c_lt, c_eqI, c_eqS, c_neS, List.getElem?_cons_zero, List.getElem?_cons_succ, List.set_cons_zero, List.set_cons_succ, Bool.not_true, Bool.not_false, decide_true, decide_false, meOk_upd (g1 σ (.dct (dk F')) (.dct (dk K)) (g ++ g₁)), dispT_one, su, up]
  refine ⟨.d (.list ((namR r).map .str)), v5', g ++ g₁ ++ [.dct (dk (sureR r []))], ?_⟩
  rw [lF_eq, firstBody]
  simp only [List.set_cons_succ, List.set_cons_zero]
  rw [seq_next s1, seq_next s2, seq_next s3, seq_next s4, xs_nil]
theorem first_loop {ws : List Str} (d h : Nat) (v0 : V) (σ : Store) : ∀ (b : RL) (F K : List Str) (g : List Cell) (v3 v4 v5 : V), okL ws b → hL b ≤ h → F.length + 20 * nL b ≤ 50000 → K.length + nL b ≤ 1000 → (∀ r ∈ lst b, ∀ σ', 0 < hR r → callF prog (d + h + 5) i_first_in [.d (.tuple (toRL (blk r)))] σ' = .ok (.loc σ'.length) (σ' ++ [.dct (dk (firstL (blk r) [] []))])) →
    ∃ v3' v4' v5' K' g', loopL (loopF' prog.G (callF prog (d + h + 5)) 3 firstBody) (toRL b) [v0, .loc σ.length, .loc (σ.length + 1), v3, v4, v5] (σ ++ .dct (dk F) :: .dct (dk K) :: g) = .ok (.next [v0, .loc σ.length, .loc (σ.length + 1), v3', v4', v5']) (σ ++ .dct (dk (firstL b F K)) :: .dct (dk K') :: g')
  | .nil, F, K, g, v3, v4, v5, _, _, _, _, _ => ⟨v3, v4, v5, K, g, by rw [firstL]; rfl⟩
  | .cons r b, F, K, g, v3, v4, v5, ok, hh, hl, hk, H => by
    have en : nL (.cons r b) = nR r + nL b := rfl
    have hh' := Nat.max_le.mp (show max (hR r) (hL b) ≤ h from hh)
    obtain ⟨v4₁, v5₁, g₁, st⟩ := first_step d h v0 σ F K g r ok.1 hh'.1 (by omega) (by omega) (H r (List.mem_cons_self ..)) v3 v4 v5
    have h1 := namR_len r ok.1
    have h2 := foldF_len K (namR r) F
    have h3 := sureR_len r []
    have h4 := fold_len (sureR r []) K
    rw [List.length_nil, Nat.zero_add] at h3
    obtain ⟨v3', v4', v5', K', g', ih⟩ := first_loop d h v0 σ b ((namR r).foldl (addF K) F) ((sureR r []).foldl addN K) g₁ (.d (toR r)) v4₁ v5₁ ok.2 hh'.2 (by omega) (by omega) fun r hr => H r (List.mem_cons_of_mem _ hr)
    refine ⟨v3', v4', v5', K', g', ?_⟩
    have el : toRL (.cons r b) = toR r :: toRL b := rfl
    rw [el, lo_cons, st, rb_ok, nextO_next, ih, firstL]
theorem call_first {ws : List Str} : ∀ (h : Nat) (b : RL) (d : Nat) (σ : Store), okL ws b → hL b ≤ h → nL b ≤ 900 → callF prog (d + h + 6) i_first_in [.d (.tuple (toRL b))] σ = .ok (.loc σ.length) (σ ++ [.dct (dk (firstL b [] []))]) := by
  have nR_le : ∀ (b : RL) (r : Rw), r ∈ lst b → nR r ≤ nL b := by
    intro b r hr
    rw [nL_lst]
    generalize lst b = l at hr
    induction l with
    | nil => cases hr
    | cons a l ih =>
      rw [List.map_cons, List.sum_cons]
      rcases List.mem_cons.mp hr with rfl | hr
      · exact Nat.le_add_right ..
      · exact Nat.le_trans (ih hr) (Nat.le_add_left ..)
  have core : ∀ (h : Nat) (b : RL) (d : Nat) (σ : Store), okL ws b → hL b ≤ h → nL b ≤ 900 → (∀ r ∈ lst b, ∀ σ', 0 < hR r → callF prog (d + h + 5) i_first_in [.d (.tuple (toRL (blk r)))] σ' = .ok (.loc σ'.length) (σ' ++ [.dct (dk (firstL (blk r) [] []))])) → callF prog (d + h + 6) i_first_in [.d (.tuple (toRL b))] σ = .ok (.loc σ.length) (σ ++ [.dct (dk (firstL b [] []))]) := by
    intro h b d σ ok hh hn H
    rw [callF_is (fn := f_first_in) rfl (d + h + 5) _ _ rfl]
    show (execs prog.G (callF prog (d + h + 5)) (.cons (.asg (.var 1) (.dict0)) (.cons (.asg (.var 2) (.dict0)) (.cons (.forr (.var 3) (.seq (.var 0)) firstBody) (.cons (.ret (.var 1)) (.nil))))) [.d (.tuple (toRL b)), .un, .un, .un, .un, .un] σ).bind (finR σ.length) = _
    obtain ⟨v3', v4', v5', K', g', lp⟩ := first_loop d h (.d (.tuple (toRL b))) σ b [] [] [] .un .un .un ok hh (by rw [List.length_nil]; omega) (by rw [List.length_nil]; omega) H
    have lp : loopL (loopF' prog.G (callF prog (d + h + 5)) 3 firstBody) (toRL b) [.d (.tuple (toRL b)), .loc σ.length, .loc (σ ++ [Cell.dct []]).length, .un, .un, .un] ((σ ++ [Cell.dct []]) ++ [.dct []]) = .ok (.next [.d (.tuple (toRL b)), .loc σ.length, .loc (σ.length + 1), v3', v4', v5']) (σ ++ .dct (dk (firstL b [] [])) :: .dct (dk K') :: g') := by
      rw [List.append_assoc, List.length_append, List.length_singleton]; exact lp
    simp only [rb_ok, lift_some, o_map, eE_none, eE_bool, eE_int, eE_str, eE_var, eE_glob, eE_bin, eE_neg, eE_not, eE_bop, eB_one, eB_more, eE_cmp, eE_cmp2, eE_ite, eE_tup, eE_list, eE_dict0, eE_dict1, eE_idx, eE_slc, eE_call, eE_bi, eE_meth, eE_freeze, eL_nil, eL_cons, eO_no, eO_yes, eI_seq, eI_range, x_expr, x_asg, x_ite, x_ret, x_pass, x_put, x_for, xs_nil, xs_cons, stepO_next, stepO_ret, look_d, look_loc, look_locs, negR_int, noneR_none, pick_tt, pick_tf, pick_ft, pick_ff, pickO_t, pickO_f, pickB_t, t_bool, b_add, b_sub, c_lt, c_eqI, c_eqS, c_neS, List.getElem?_cons_zero, List.getElem?_cons_succ, List.set_cons_zero, List.set_cons_succ, Bool.not_true, Bool.not_false, decide_true, decide_false, open_tup, lock_none, unlock_none, lp, finR_ret, exit_dcts]
  intro h
  induction h with
  | zero =>
    intro b d σ ok hh hn
    exact core 0 b d σ ok hh hn fun r hr σ' hp => absurd (Nat.le_trans (hL_lst hr) hh) (by omega)
  | succ h ih =>
    intro b d σ ok hh hn
    refine core (h + 1) b d σ ok hh hn fun r hr σ' hp => ?_
    have hbh : hL (blk r) ≤ h := by
      have h1 := hL_lst hr
      cases r with
      | whn t b => show hL b ≤ h; have : hL b + 1 ≤ _ := h1; omega
      | aga t b => show hL b ≤ h; have : hL b + 1 ≤ _ := h1; omega
      | _ => exact Nat.zero_le _
    have e : d + (h + 1) + 5 = d + h + 6 := by omega
    rw [e]
    exact ih (blk r) d σ' (blk_ok (okL_lst ok r hr)) hbh (by have := nR_le b r hr; have := blk_n r; omega)

/-! sorted -/
theorem strs_of : ∀ L : List Str, strsOf (L.map .str) = some L
  | [] => rfl
  | x :: L => by
    have e : strsOf ((x :: L).map .str) = (strsOf (L.map .str)).map (x :: ·) := rfl
    rw [e, strs_of L]; rfl
theorem sort_ok {L : List Str} (h : L.length < 64) (m : Bool) (σ : Store) : biV .sorted m [.d (.list (L.map .str))] σ = mkList m ((sortStr L).map .str) σ := by
  show oc (strsOf (L.map .str)) (fun l => if l.length < 64 then mkList m ((sortStr l).map .str) σ else .bad) .bad = _
  rw [strs_of]; exact if_pos h
theorem exit_lst2 (σ : Store) (a : Cell) (l : List PyData) : exitV σ.length (.loc (σ ++ [a]).length) ((σ ++ [a]) ++ [.lst l]) = .ok (.loc σ.length) (σ ++ [.lst l]) := by
  unfold exitV
  show (if (σ ++ [a]).length < σ.length then _ else _) = _
  rw [if_neg (by simp), snoc_get]
  show Res.ok _ (List.take σ.length ((σ ++ [a]) ++ _) ++ _) = _
  rw [List.append_assoc, List.take_left' rfl]
theorem call_surely_set (h : Nat) (b : RL) (d : Nat) (σ : Store) (hh : hL b ≤ h) (hn : nL b ≤ 900) (h64 : (sureL b []).length < 64) : callF prog (d + h + 4) i_surely_set [.d (.tuple (toRL b))] σ = .ok (.loc σ.length) (σ ++ [.lst ((sortStr (sureL b [])).map .str)]) := by
  rw [callF_is (fn := f_surely_set) rfl (d + h + 3) _ _ rfl]
  show (execs prog.G (callF prog (d + h + 3)) b_surely_set [.d (.tuple (toRL b))] σ).bind (finR σ.length) = _
  have e := call_surely h b d σ hh (by omega)
  unfold b_surely_set
  simp only [rb_ok, lift_some, o_map, eE_none, eE_bool, eE_int, eE_str, eE_var, eE_glob, eE_bin, eE_neg, eE_not, eE_bop, eB_one, eB_more, eE_cmp, eE_cmp2, eE_ite, eE_tup, eE_list, eE_dict0, eE_dict1, eE_idx, eE_slc, eE_call, eE_bi, eE_meth, eE_freeze, eL_nil, eL_cons, eO_no, eO_yes, eI_seq, eI_range, x_expr, x_asg, x_ite, x_ret, x_pass, x_put, x_for, xs_nil, xs_cons, stepO_next, stepO_ret, look_d, look_loc, look_locs, negR_int, noneR_none, pick_tt, pick_tf, pick_ft, pick_ff, pickO_t, pickO_f, pickB_t, t_bool, b_add, b_sub, c_lt, c_eqI, c_eqS, c_neS, List.getElem?_cons_zero, List.getElem?_cons_succ, List.set_cons_zero, List.set_cons_succ, Bool.not_true, Bool.not_false, decide_true, decide_false, e, list_dct (snoc_get _ _), mkL_f, keys_dk, sort_ok h64, mkL_t, finR_ret, exit_lst2]
theorem call_first_read {ws : List Str} (h : Nat) (b : RL) (d : Nat) (σ : Store) (ok : okL ws b) (hh : hL b ≤ h) (hn : nL b ≤ 900) (h64 : (firstL b [] []).length < 64) : callF prog (d + h + 7) i_first_read [.d (.tuple (toRL b))] σ = .ok (.loc σ.length) (σ ++ [.lst ((sortStr (firstL b [] [])).map .str)]) := by
  rw [callF_is (fn := f_first_read) rfl (d + h + 6) _ _ rfl]
  show (execs prog.G (callF prog (d + h + 6)) b_first_read [.d (.tuple (toRL b))] σ).bind (finR σ.length) = _
  have e := call_first h b d σ ok hh hn
  unfold b_first_read
  simp only [rb_ok, lift_some, o_map, eE_none, eE_bool, eE_int, eE_str, eE_var, eE_glob, eE_bin, eE_neg, eE_not, eE_bop, eB_one, eB_more, eE_cmp, eE_cmp2, eE_ite, eE_tup, eE_list, eE_dict0, eE_dict1, eE_idx, eE_slc, eE_call, eE_bi, eE_meth, eE_freeze, eL_nil, eL_cons, eO_no, eO_yes, eI_seq, eI_range, x_expr, x_asg, x_ite, x_ret, x_pass, x_put, x_for, xs_nil, xs_cons, stepO_next, stepO_ret, look_d, look_loc, look_locs, negR_int, noneR_none, pick_tt, pick_tf, pick_ft, pick_ff, pickO_t, pickO_f, pickB_t, t_bool, b_add, b_sub, c_lt, c_eqI, c_eqS, c_neS, List.getElem?_cons_zero, List.getElem?_cons_succ, List.set_cons_zero, List.set_cons_succ, Bool.not_true, Bool.not_false, decide_true, decide_false, e, list_dct (snoc_get _ _), mkL_f, keys_dk, sort_ok h64, mkL_t, finR_ret, exit_lst2]
noncomputable def listBody : SL := .cons (.ite (.not (.bi (.isinst .str) false (.cons (.var 2) (.nil))))
      (.cons (.ret (.bool false)) (
      .nil))
      (.nil)) (
    .nil)
theorem list_loop (cf : Nat → List V → Store → Res V) (v0 v1 : V) (σ : Store) (L : List Str) : ∀ (v2 : V), ∃ v2', loopL (loopF' prog.G cf 2 listBody) (L.map .str) [v0, v1, v2] σ = .ok (.next [v0, v1, v2']) σ := by
  induction L with
  | nil => intro v2; exact ⟨v2, by rw [List.map_nil, lo_nil]⟩
  | cons x L ih =>
    intro v2
    obtain ⟨v2', ih⟩ := ih (.d (.str x))
    refine ⟨v2', ?_⟩
    have body : loopF' prog.G cf 2 listBody (.str x) [v0, v1, v2] σ = .ok (.next [v0, v1, .d (.str x)]) σ := by
      rw [lF_eq, listBody]
      simp only [rb_ok, lift_some, o_map, eE_none, eE_bool, eE_int, eE_str, eE_var, eE_glob, eE_bin, eE_neg, eE_not, eE_bop, eB_one, eB_more, eE_cmp, eE_cmp2, eE_ite, eE_tup, eE_list, eE_dict0, eE_dict1, eE_idx, eE_slc, eE_call, eE_bi, eE_meth, eE_freeze, eL_nil, eL_cons, eO_no, eO_yes, eI_seq, eI_range, x_expr, x_asg, x_ite, x_ret, x_pass, x_put, x_for, xs_nil, xs_cons, stepO_next, stepO_ret, look_d, look_loc, look_locs, negR_int, noneR_none, pick_tt, pick_tf, pick_ft, pick_ff, pickO_t, pickO_f, pickB_t, t_bool, b_add, b_sub, c_lt, c_eqI, c_eqS, c_neS, List.getElem?_cons_zero, List.getElem?_cons_succ, List.set_cons_zero, List.set_cons_succ, Bool.not_true, Bool.not_false, decide_true, decide_false, ty_str]
    rw [List.map_cons, lo_cons, body, rb_ok, nextO_next, ih]
theorem call_list {σ : Store} {n : Nat} {L D : List Str} (hc : σ[n]? = some (.lst (L.map .str))) (hD : D.length < 64) (he : sortStr D = L) (d : Nat) : callF prog (d + 1) i_law_list [.loc n, .d (.list (D.map .str))] σ = .ok (.d (.bool true)) σ := by
  rw [callF_is (fn := f_law_list) rfl d _ _ rfl]
  show (execs prog.G (callF prog d) (.cons (.ite (.not (.bi (.isinst .list) false (.cons (.var 0) (.nil))))
    (.cons (.ret (.bool false)) (
    .nil))
    (.nil)) (
  .cons (.forr (.var 2) (.seq (.var 0)) listBody) (
  .cons (.ret (.cmp .eq (.var 0) (.bi .sorted false (.cons (.var 1) (.nil))))) (
  .nil)))) [.loc n, .d (.list (D.map .str)), .un] σ).bind (finR σ.length) = _
  obtain ⟨v', lp⟩ := list_loop (callF prog d) (.loc n) (.d (.list (D.map .str))) (σ.set n .busy) L .un
  have lk : lockS (some n) σ = σ.set n .busy := rfl
  have uk : unlockS (some n) (L.map .str) (σ.set n .busy) = σ := by
    show (σ.set n .busy).set n (.lst (L.map .str)) = σ
    rw [List.set_set, set_same hc]
  simp only [rb_ok, lift_some, o_map, eE_none, eE_bool, eE_int, eE_str, eE_var, eE_glob, eE_bin, eE_neg, eE_not, eE_bop, eB_one, eB_more, eE_cmp, eE_cmp2, eE_ite, eE_tup, eE_list, eE_dict0, eE_dict1, eE_idx, eE_slc, eE_call, eE_bi, eE_meth, eE_freeze, eL_nil, eL_cons, eO_no, eO_yes, eI_seq, eI_range, x_expr, x_asg, x_ite, x_ret, x_pass, x_put, x_for, xs_nil, xs_cons, stepO_next, stepO_ret, look_d, look_loc, look_locs, negR_int, noneR_none, pick_tt, pick_tf, pick_ft, pick_ff, pickO_t, pickO_f, pickB_t, t_bool, b_add, b_sub, c_lt, c_eqI, c_eqS, c_neS, List.getElem?_cons_zero, List.getElem?_cons_succ, List.set_cons_zero, List.set_cons_succ, Bool.not_true, Bool.not_false, decide_true, decide_false, ty_loc _ hc, open_loc hc, lk, lp, uk, sort_ok hD, he, mkL_f, eq_box' hc, finR_ret, exit_d]
end Mine.L03

set_option autoImplicit false
set_option linter.unusedVariables false
set_option linter.unusedSimpArgs false
namespace Mine.L03
open PySem Mine

/-! membership -/
theorem mem_addN {L : List Str} {x y : Str} : y ∈ addN L x ↔ y ∈ L ∨ y = x := by
  unfold addN
  by_cases h : x ∈ L
  · rw [if_pos h]
    exact ⟨.inl, fun q => q.elim id fun e => e ▸ h⟩
  · rw [if_neg h, List.mem_append, List.mem_singleton]
theorem mem_foldN {y : Str} : ∀ {M L : List Str}, y ∈ M.foldl addN L ↔ y ∈ L ∨ y ∈ M
  | [], L => by simp
  | x :: M, L => by rw [List.foldl_cons, mem_foldN, mem_addN, List.mem_cons, or_assoc]
theorem mem_foldF {y : Str} {K : List Str} : ∀ {M F : List Str}, y ∈ M.foldl (addF K) F ↔ y ∈ F ∨ (y ∈ M ∧ y ∉ K)
  | [], F => by simp
  | x :: M, F => by
    rw [List.foldl_cons, mem_foldF, List.mem_cons]
    unfold addF
    by_cases h : x ∈ K
    · rw [if_pos h]
      constructor
      · rintro (h1 | ⟨h1, h2⟩)
        · exact .inl h1
        · exact .inr ⟨.inr h1, h2⟩
      · rintro (h1 | ⟨rfl | h1, h2⟩)
        · exact .inl h1
        · exact absurd h h2
        · exact .inr ⟨h1, h2⟩
    · rw [if_neg h, mem_addN]
      constructor
      · rintro ((h1 | rfl) | ⟨h1, h2⟩)
        · exact .inl h1
        · exact .inr ⟨.inl rfl, h⟩
        · exact .inr ⟨.inr h1, h2⟩
      · rintro (h1 | ⟨rfl | h1, h2⟩)
        · exact .inl (.inl h1)
        · exact .inl (.inr rfl)
        · exact .inr ⟨h1, h2⟩
theorem mem_gath {y : Str} (t : Tm) : ∀ {L : List Str}, y ∈ gath t L ↔ y ∈ L ∨ y ∈ nms t := by
  induction t with
  | num i => intro L; simp [gath, nms]
  | name x => intro L; rw [gath, mem_addN, nms, List.mem_singleton]
  | op k a b iha ihb => intro L; rw [gath, ihb, iha, nms, List.mem_append, or_assoc]
theorem mem_addT {y : Str} : ∀ {ts : List Tm} {F : List Str}, y ∈ ts.foldl addT F ↔ y ∈ F ∨ y ∈ ts.flatMap nms
  | [], F => by simp
  | t :: ts, F => by
    rw [List.foldl_cons, mem_addT, addT, mem_foldN, mem_gath, List.flatMap_cons, List.mem_append]
    simp only [List.not_mem_nil, false_or, or_assoc]
theorem mem_ownK {y : Str} {r : Rw} : y ∈ ownK r ↔ y ∈ own r := by
  unfold ownK own
  rw [mem_addT]; simp

/-! what a scan tells -/
theorem or_shift (a b c : Bool) : (a || b || c) = (a || (b || c)) := Bool.or_assoc a b c
theorem step_rd (x : Str) (r : Rw) (rd : Bool) : (stepR x r rd).1 = (rd || (stepR x r false).1) ∧ (stepR x r rd).2 = (stepR x r false).2 := by
  cases r with
  | set y t => rw [stepR, stepR]; simp
  | tell t => rw [stepR, stepR]; simp
  | call o f ts => rw [stepR, stepR]; simp
  | whn t b => rw [stepR, stepR]; simp [Bool.or_assoc]
  | aga n b =>
    rw [stepR, stepR]
    by_cases h : n > 0
    · rw [if_pos h, if_pos h]; simp [Bool.or_assoc]
    · rw [if_neg h, if_neg h]; simp
theorem scan_cons (x : Str) (r : Rw) (b : RL) (rd : Bool) : scanL x (.cons r b) rd = if (stepR x r rd).2 then scanL x b (stepR x r rd).1 else ((stepR x r rd).1, false) := by rw [scanL]
theorem scan_rd (x : Str) : ∀ (b : RL) (rd : Bool), (scanL x b rd).1 = (rd || (scanL x b false).1) ∧ (scanL x b rd).2 = (scanL x b false).2
  | .nil, rd => by rw [scanL, scanL]; simp
  | .cons r b, rd => by
    have h := step_rd x r rd
    have h1 := scan_rd x b (stepR x r rd).1
    have h2 := scan_rd x b (stepR x r false).1
    rw [scan_cons, scan_cons, h.2]
    by_cases q : (stepR x r false).2 = true
    · rw [if_pos q, if_pos q, h1.1, h1.2, h2.1, h2.2, h.1]
      exact ⟨Bool.or_assoc .., rfl⟩
    · rw [if_neg q, if_neg q]
      exact ⟨h.1, rfl⟩
mutual
theorem sureR_mem (x : Str) : ∀ (r : Rw) (F : List Str), x ∈ sureR r F ↔ x ∈ F ∨ (stepR x r false).2 = false
  | .set y t, F => by
    have e : sureR (.set y t) F = addN F y := rfl
    rw [e, mem_addN, stepR]
    simp only [Bool.not_eq_false', decide_eq_true_eq]
    rw [@eq_comm _ y x]
  | .call none f ts, F => by
    have e : sureR (.call none f ts) F = F := rfl
    rw [e, stepR]; simp
  | .call (some y) f ts, F => by
    have e : sureR (.call (some y) f ts) F = addN F y := rfl
    rw [e, mem_addN, stepR]
    simp only [Bool.not_eq_false', decide_eq_true_eq, Option.some.injEq]
    rw [@eq_comm _ y x]
  | .aga n b, F => by
    rw [sureR, stepR]
    by_cases h : n > 0
    · rw [if_pos h, if_pos h, mem_foldN, sureL_mem x b []]; simp
    · rw [if_neg h, if_neg h]; simp
  | .tell t, F => by rw [sureR, stepR]; simp
  | .whn t b, F => by rw [sureR, stepR]; simp
theorem sureL_mem (x : Str) : ∀ (b : RL) (F : List Str), x ∈ sureL b F ↔ x ∈ F ∨ (scanL x b false).2 = false
  | .nil, F => by rw [sureL, scanL]; simp
  | .cons r b, F => by
    rw [sureL, sureL_mem x b, sureR_mem x r, scan_cons]
    have h := scan_rd x b (stepR x r false).1
    by_cases q : (stepR x r false).2 = true
    · rw [if_pos q, h.2, q]; simp
    · rw [if_neg q]
      have q' : (stepR x r false).2 = false := by simpa using q
      rw [q']; simp
end
mutual
theorem namR_mem (x : Str) : ∀ (r : Rw), x ∈ namR r ↔ (stepR x r false).1 = true
  | .set y t => by rw [namR, stepR, mem_ownK]; simp
  | .tell t => by rw [namR, stepR, mem_ownK]; simp
  | .call o f ts => by rw [namR, stepR, mem_ownK]; simp
  | .whn t b => by rw [namR, stepR, List.mem_append, mem_ownK, firstL_mem x b [] []]; simp
  | .aga n b => by
    rw [namR, stepR, List.mem_append, mem_ownK]
    by_cases h : n > 0
    · rw [if_pos h, if_pos h, firstL_mem x b [] []]; simp
    · rw [if_neg h, if_neg h]; simp
theorem firstL_mem (x : Str) : ∀ (b : RL) (F K : List Str), x ∈ firstL b F K ↔ x ∈ F ∨ (x ∉ K ∧ (scanL x b false).1 = true)
  | .nil, F, K => by rw [firstL, scanL]; simp
  | .cons r b, F, K => by
    rw [firstL, firstL_mem x b, mem_foldF, mem_foldN, namR_mem x r, sureR_mem x r [], scan_cons]
    have h := scan_rd x b (stepR x r false).1
    by_cases q : (stepR x r false).2 = true
    · rw [if_pos q, h.1, q]
      simp only [List.not_mem_nil, false_or, Bool.or_eq_true, Bool.true_eq_false, or_false]
      constructor
      · rintro ((h1 | ⟨h1, h2⟩) | ⟨h1, h2⟩)
        · exact .inl h1
        · exact .inr ⟨h2, .inl h1⟩
        · exact .inr ⟨h1, .inr h2⟩
      · rintro (h1 | ⟨h1, h2 | h2⟩)
        · exact .inl (.inl h1)
        · exact .inl (.inr ⟨h2, h1⟩)
        · exact .inr ⟨h1, h2⟩
    · rw [if_neg q]
      have q' : (stepR x r false).2 = false := by simpa using q
      rw [q']
      simp only [List.not_mem_nil, false_or, or_true, not_true, false_and, or_false]
      constructor
      · rintro (h1 | ⟨h1, h2⟩)
        · exact .inl h1
        · exact .inr ⟨h2, h1⟩
      · rintro (h1 | ⟨h1, h2⟩)
        · exact .inl h1
        · exact .inr ⟨h2, h1⟩
end

/-! no name twice -/
theorem nodup_addN {L : List Str} {x : Str} (h : L.Nodup) : (addN L x).Nodup := by
  unfold addN
  by_cases hx : x ∈ L
  · rw [if_pos hx]; exact h
  · rw [if_neg hx, List.nodup_append]
    exact ⟨h, by simp, fun a ha b hb e => by rw [List.mem_singleton.mp hb] at e; exact hx (e ▸ ha)⟩
theorem nodup_foldN : ∀ {M L : List Str}, L.Nodup → (M.foldl addN L).Nodup
  | [], L, h => h
  | x :: M, L, h => nodup_foldN (M := M) (nodup_addN h)
theorem nodup_foldF {K : List Str} : ∀ {M L : List Str}, L.Nodup → (M.foldl (addF K) L).Nodup
  | [], L, h => h
  | x :: M, L, h => by
    refine nodup_foldF (M := M) ?_
    unfold addF
    by_cases hx : x ∈ K
    · rw [if_pos hx]; exact h
    · rw [if_neg hx]; exact nodup_addN h
theorem nodup_sureR (r : Rw) {F : List Str} (h : F.Nodup) : (sureR r F).Nodup := by
  cases r with
  | set y t => exact nodup_addN h
  | tell t => rw [sureR]; exact h
  | whn t b => rw [sureR]; exact h
  | call o f ts => cases o with
    | none => exact h
    | some y => exact nodup_addN h
  | aga n b =>
    rw [sureR]; split
    · exact nodup_foldN h
    · exact h
theorem nodup_sureL : ∀ (b : RL) {F : List Str}, F.Nodup → (sureL b F).Nodup
  | .nil, F, h => by rw [sureL]; exact h
  | .cons r b, F, h => by rw [sureL]; exact nodup_sureL b (nodup_sureR r h)
theorem nodup_firstL : ∀ (b : RL) {F K : List Str}, F.Nodup → (firstL b F K).Nodup
  | .nil, F, K, h => by rw [firstL]; exact h
  | .cons r b, F, K, h => by rw [firstL]; exact nodup_firstL b (nodup_foldF h)

/-! all names are among the words -/
theorem own_in {ws : List Str} {r : Rw} (h : okR ws r) {x : Str} (hx : x ∈ own r) : x ∈ ws := by
  obtain ⟨t, ht, hx⟩ := List.mem_flatMap.mp hx
  exact ((terms_ok h).1 t ht).1 x hx
mutual
theorem step_in {ws : List Str} (x : Str) : ∀ (r : Rw), okR ws r → ((stepR x r false).1 = true → x ∈ ws) ∧ ((stepR x r false).2 = false → x ∈ ws)
  | .set y t, h => by
    rw [stepR]
    refine ⟨fun q => own_in h (by simpa using q), fun q => ?_⟩
    have : y = x := by simpa using q
    exact this ▸ h.1
  | .tell t, h => by
    rw [stepR]
    exact ⟨fun q => own_in (r := .tell t) h (by simpa using q), fun q => by simp at q⟩
  | .call o f ts, h => by
    rw [stepR]
    refine ⟨fun q => own_in (r := .call o f ts) h (by simpa using q), fun q => ?_⟩
    have : o = some x := by simpa using q
    exact h.1 x this
  | .whn t b, h => by
    rw [stepR]
    refine ⟨fun q => ?_, fun q => by simp at q⟩
    have q : x ∈ own (.whn t b) ∨ (scanL x b false).1 = true := by simpa using q
    exact q.elim (own_in (r := .whn t b) h) (scan_in x b h.2).1
  | .aga n b, h => by
    rw [stepR]
    by_cases hn : n > 0
    · rw [if_pos hn]
      refine ⟨fun q => ?_, fun q => (scan_in x b h).2 q⟩
      have q : x ∈ own (.aga n b) ∨ (scanL x b false).1 = true := by simpa using q
      exact q.elim (own_in (r := .aga n b) h) (scan_in x b h).1
    · rw [if_neg hn]
      exact ⟨fun q => own_in (r := .aga n b) h (by simpa using q), fun q => by simp at q⟩
theorem scan_in {ws : List Str} (x : Str) : ∀ (b : RL), okL ws b → ((scanL x b false).1 = true → x ∈ ws) ∧ ((scanL x b false).2 = false → x ∈ ws)
  | .nil, h => by rw [scanL]; exact ⟨fun q => by simp at q, fun q => by simp at q⟩
  | .cons r b, h => by
    rw [scan_cons]
    have hs := scan_rd x b (stepR x r false).1
    have h1 := step_in x r h.1
    have h2 := scan_in x b h.2
    by_cases q : (stepR x r false).2 = true
    · rw [if_pos q, hs.1, hs.2]
      refine ⟨fun p => ?_, h2.2⟩
      rcases Bool.or_eq_true_iff.mp p with p | p
      · exact h1.1 p
      · exact h2.1 p
    · rw [if_neg q]
      exact ⟨h1.1, fun _ => h1.2 (by simpa using q)⟩
end

/-! sorting forgets the order -/
theorem sort_perm {l l' : List Str} (h : l.Perm l') : sortStr l = sortStr l' := by
  refine List.Perm.eq_of_pairwise (fun a b _ _ h1 h2 => ?_) (sortStr_sorted l) (sortStr_sorted l') ((sortStr_perm l).trans (h.trans (sortStr_perm l').symm))
  unfold leS strLt at *
  simp only [decide_eq_false_iff_not, List.not_lt] at *
  exact strL_inj (List.le_antisymm h1 h2)
theorem first_perm {ws : List Str} (hw : ws.Nodup) {b : RL} (h : okL ws b) : (ws.filter fun x => (scanL x b false).1).Perm (firstL b [] []) := by
  refine (List.perm_ext_iff_of_nodup (List.Pairwise.filter _ hw) (nodup_firstL b List.nodup_nil)).mpr fun x => ?_
  rw [List.mem_filter, firstL_mem x b]
  simp only [List.not_mem_nil, not_false_eq_true, true_and, false_or]
  exact ⟨fun q => q.2, fun q => ⟨(scan_in x b h).1 q, q⟩⟩
theorem sure_perm {ws : List Str} (hw : ws.Nodup) {b : RL} (h : okL ws b) : (ws.filter fun x => !(scanL x b false).2).Perm (sureL b []) := by
  refine (List.perm_ext_iff_of_nodup (List.Pairwise.filter _ hw) (nodup_sureL b List.nodup_nil)).mpr fun x => ?_
  rw [List.mem_filter, sureL_mem x b]
  simp only [List.not_mem_nil, false_or, Bool.not_eq_true']
  exact ⟨fun q => q.2, fun q => ⟨(scan_in x b h).2 q, q⟩⟩
end Mine.L03

set_option autoImplicit false
set_option linter.unusedVariables false
set_option linter.unusedSimpArgs false
namespace Mine.L03
open PySem Mine

/-! comprehensions over data -/
theorem compL_mapF {α : Type} {f : PyData → Store → Res (Option PyData)} {φ : α → PyData} {γ : α → Option PyData} {σ : Store} : ∀ ps : List α, (∀ p ∈ ps, f (φ p) σ = .ok (γ p) σ) → compL f (ps.map φ) σ = .ok (ps.filterMap γ) σ
  | [], _ => rfl
  | p :: ps, h => by
    rw [List.map_cons, cL_cons, h p (List.mem_cons_self ..), rb_ok, compL_mapF ps fun q hq => h q (List.mem_cons_of_mem _ hq), rb_ok, List.filterMap_cons]
    cases γ p <;> rfl
theorem comp_seq {α : Type} (cf : Nat → List V → Store → Res V) {i : Nat} {c : EO} {e : E} {it : It} {ρ : Fm} {σ : Store} {ps : List α} {φ : α → PyData} (γ : α → Option PyData) (hit : evalIt prog.G cf it ρ σ = .ok ⟨ps.map φ, ps.map φ, none⟩ σ) (h : ∀ p ∈ ps, compF' prog.G cf i c e ρ (φ p) (σ ++ [.busy]) = .ok (γ p) (σ ++ [.busy])) :
    evalE prog.G cf (.comp false (.var i) it c e) ρ σ = .ok (.d (.list (ps.filterMap γ))) σ := by
  have hc := compL_mapF (f := compF' prog.G cf i c e ρ) (σ := σ ++ [.busy]) ps h
  rw [eE_comp, hit, rb_ok]
  show (compL _ (ps.map φ) (lockS none σ ++ [.busy])).bind _ = _
  rw [lock_none, hc, rb_ok]
  show mkList false _ ((unlockS none _ (σ ++ [.busy])).take σ.length) = _
  rw [unlock_none]
  simp [mkList]
theorem cF_yes (cf : Nat → List V → Store → Res V) (i : Nat) (c e : E) (ρ : Fm) (x : PyData) (σ : Store) {b : Bool} {y : PyData} (hc : evalE prog.G cf c (ρ.set i (.d x)) σ = .ok (.d (.bool b)) σ) (h : evalE prog.G cf e (ρ.set i (.d x)) σ = .ok (.d y) σ) : compF' prog.G cf i (.yes c) e ρ x σ = .ok (if b then some y else none) σ := by
  unfold compF'
  rw [eO_yes, hc, rb_ok, rb_ok]
  show (lift (truthy σ (.d (.bool b))) σ).bind _ = _
  rw [t_bool, lift_some, rb_ok]
  cases b with
  | true =>
    show (evalE prog.G cf e (ρ.set i (.d x)) σ).bind _ = _
    rw [h, rb_ok]; rfl
  | false => rfl
theorem filt_map (f : Str → Bool) (ws : List Str) : (ws.filterMap fun x => if f x then some (PyData.str x) else none) = (ws.filter f).map .str := by
  induction ws with
  | nil => rfl
  | cons a ws ih =>
    rw [List.filterMap_cons, List.filter_cons, ih]
    cases f a <;> rfl
theorem idx_box {σ : Store} {n : Nat} {l : List PyData} (h : σ[n]? = some (.lst l)) {i : Int} (h0 : 0 ≤ i) : idxV (.loc n) (.d (.int i)) σ = (l[i.toNat]?).map V.d := by
  show oc (listOf σ (.loc n)) (fun l => if 0 ≤ i then (l[i.toNat]?).map V.d else none) none = _
  rw [listOf_loc h]; exact if_pos h0
theorem locs_0 (a b : Nat) (σ : Store) : idxV (.locs [a, b]) (.d (.int 0)) σ = some (.loc a) := byR rfl
theorem locs_1 (a b : Nat) (σ : Store) : idxV (.locs [a, b]) (.d (.int 1)) σ = some (.loc b) := byR rfl
theorem dispL_locs (a b : Nat) (σ : Store) : dispL false [.loc a, .loc b] σ = .ok (.locs [a, b]) σ := byR rfl

/-! one turn of the law's loop -/
noncomputable def turnBody : SL := .cons (.asg (.var 7) (.list false (.cons (.call i_first_read (.cons (.var 3) (.nil))) (.cons (.call i_surely_set (.cons (.var 3) (.nil))) (.nil))))) (
    .cons (.ite (.bop false (.cons (.not (.call i_law_list (.cons (.idx (.var 7) (.int 0)) (.cons (.idx (.var 5) (.int 0)) (.nil))))) (.cons (.not (.call i_law_list (.cons (.idx (.var 7) (.int 1)) (.cons (.idx (.var 5) (.int 1)) (.nil))))) (.nil))))
      (.cons (.ret (.bool false)) (
      .nil))
      (.nil)) (
    .cons (.expr (.meth .append (.idx (.var 7) (.int 0)) (.cons (.str s_more) (.nil)))) (
    .cons (.expr (.meth .append (.idx (.var 7) (.int 1)) (.cons (.str s_more) (.nil)))) (
    .nil))))
theorem turn_step {ws : List Str} {b : RL} (ok : okL ws b) (hh : hL b ≤ 9) (hn : nL b ≤ 400) {D1 D2 : List Str} (p1 : D1.Perm (firstL b [] [])) (p2 : D2.Perm (sureL b [])) (h1 : D1.length ≤ 7) (h2 : D2.length ≤ 7) (d : Nat) (x : PyData) (v0 v1 v2 v4 v6 v7 v8 v9 v10 v11 : V) (g : List Cell) :
    ∃ v7' g', loopF' prog.G (callF prog (d + 16)) 6 turnBody x [v0, v1, v2, .d (.tuple (toRL b)), v4, .loc 0, v6, v7, v8, v9, v10, v11] (.lst [.list (D1.map .str), .list (D2.map .str)] :: g) = .ok (.next [v0, v1, v2, .d (.tuple (toRL b)), v4, .loc 0, .d x, v7', v8, v9, v10, v11]) (.lst [.list (D1.map .str), .list (D2.map .str)] :: g') := by
  generalize hσ : (Cell.lst [.list (D1.map .str), .list (D2.map .str)] :: g : Store) = σ
  have l1 := p1.length_eq
  have l2 := p2.length_eq
  have e1 := call_first_read 9 b d σ ok hh (by omega) (by omega)
  have e2 := call_surely_set 9 b (d + 3) (σ ++ [.lst ((sortStr (firstL b [] [])).map .str)]) hh (by omega) (by omega)
  generalize hA : (sortStr (firstL b [] [])).map PyData.str = A at e1 e2
  generalize hB : (sortStr (sureL b [])).map PyData.str = B at e2
  have hA' : A.length ≤ 7 := by rw [← hA, List.length_map, (sortStr_perm _).length_eq]; omega
  have hB' : B.length ≤ 7 := by rw [← hB, List.length_map, (sortStr_perm _).length_eq]; omega
  have gA : ∀ c, ((σ ++ [.lst A]) ++ [c])[σ.length]? = some (.lst A) := fun c => by rw [List.append_assoc]; exact g0 ..
  have gB : ((σ ++ [.lst A]) ++ [.lst B])[(σ ++ [Cell.lst A]).length]? = some (.lst B) := snoc_get _ _
  have gD : ∀ a c, ((σ ++ [a]) ++ [c])[0]? = some (.lst [.list (D1.map .str), .list (D2.map .str)]) := fun a c => by rw [← hσ]; rfl
  have c1 := call_list (σ := (σ ++ [.lst A]) ++ [.lst B]) (n := σ.length) (L := sortStr (firstL b [] [])) (D := D1) (by rw [hA]; exact gA _) (by omega) (sort_perm p1) (d + 15)
  have c2 := call_list (σ := (σ ++ [.lst A]) ++ [.lst B]) (n := (σ ++ [Cell.lst A]).length) (L := sortStr (sureL b [])) (D := D2) (by rw [hB]; exact gB) (by omega) (sort_perm p2) (d + 15)
  have i0 : idxV (.loc 0) (.d (.int 0)) ((σ ++ [.lst A]) ++ [.lst B]) = some (.d (.list (D1.map .str))) := by rw [idx_box (gD _ _) (by decide)]; rfl
  have i1 : idxV (.loc 0) (.d (.int 1)) ((σ ++ [.lst A]) ++ [.lst B]) = some (.d (.list (D2.map .str))) := by rw [idx_box (gD _ _) (by decide)]; rfl
  have a1 : meV .append (.loc σ.length) [.d (.str s_more)] ((σ ++ [.lst A]) ++ [.lst B]) = .ok (.d .none) ((σ ++ [.lst (A ++ [.str s_more])]) ++ [.lst B]) := by
    rw [app_ok (gA _) (by unfold LIM; omega), List.append_assoc, List.append_assoc]
    exact congrArg _ (st0 ..)
  have gB2 : ((σ ++ [.lst (A ++ [.str s_more])]) ++ [.lst B])[(σ ++ [Cell.lst A]).length]? = some (.lst B) := by
    have : (σ ++ [Cell.lst A]).length = (σ ++ [Cell.lst (A ++ [.str s_more])]).length := by simp
    rw [this]; exact snoc_get _ _
  have a2 : meV .append (.loc (σ ++ [Cell.lst A]).length) [.d (.str s_more)] ((σ ++ [.lst (A ++ [.str s_more])]) ++ [.lst B]) = .ok (.d .none) ((σ ++ [.lst (A ++ [.str s_more])]) ++ [.lst (B ++ [.str s_more])]) := by
    rw [app_ok gB2 (by unfold LIM; omega)]
    have : (σ ++ [Cell.lst A]).length = (σ ++ [Cell.lst (A ++ [.str s_more])]).length := by simp
    rw [this, snoc_set]
  refine ⟨.locs [σ.length, (σ ++ [Cell.lst A]).length], g ++ [.lst (A ++ [.str s_more])] ++ [.lst (B ++ [.str s_more])], ?_⟩
  have fin : (Cell.lst [.list (D1.map .str), .list (D2.map .str)] :: (g ++ [.lst (A ++ [.str s_more])] ++ [.lst (B ++ [.str s_more])]) : Store) = (σ ++ [.lst (A ++ [.str s_more])]) ++ [.lst (B ++ [.str s_more])] := by rw [← hσ]; simp
  rw [fin, lF_eq, turnBody]
  simp only [rb_ok, lift_some, o_map, eE_none, eE_bool, eE_int, eE_str, eE_var, eE_glob, eE_bin, eE_neg, eE_not, eE_bop, eB_one, eB_more, eE_cmp, eE_cmp2, eE_ite, eE_tup, eE_list, eE_dict0, eE_dict1, eE_idx, eE_slc, eE_call, eE_bi, eE_meth, eE_freeze, eL_nil, eL_cons, eO_no, eO_yes, eI_seq, eI_range, x_expr, x_asg, x_ite, x_ret, x_pass, x_put, x_for, xs_nil, xs_cons, stepO_next, stepO_ret, look_d, look_loc, look_locs, negR_int, noneR_none, pick_tt, pick_tf, pick_ft, pick_ff, pickO_t, pickO_f, pickB_t, t_bool, b_add, b_sub, c_lt, c_eqI, c_eqS, c_neS, List.getElem?_cons_zero, List.getElem?_cons_succ, List.set_cons_zero, List.set_cons_succ, Bool.not_true, Bool.not_false, decide_true, decide_false, e1, e2, dispL_locs, locs_0, locs_1, i0, i1, c1, c2, meOk_app (gA _), a1, meOk_app gB2, a2]

/-! the law -/
theorem result (l : List Int) : ∃ σ', callF prog 100 i_law [.d (.list (l.map .int))] [] = .ok (.d (.bool true)) σ' := by
  obtain ⟨ws, ⟨w0, w7, wn⟩, hv⟩ := call_variables l
  obtain ⟨fs, ⟨f0, f8, fok⟩, ep⟩ := call_program l w0 hv 82 []
  obtain ⟨L, lok, l4, ea⟩ := call_all fok f8 86 []
  have c0 := cell_at 98 l [] 0 0 rfl
  have v4 := hv 96 []
  -- the rows to choose from
  have k1 := comp_seq (callF prog 99) (i := 8) (c := .no) (e := .idx (.var 8) (.int 2)) (it := .seq (.var 1)) (ρ := [.d (.list (l.map .int)), .d (.tuple (fs.map toF)), .un, .un, .un, .un, .un, .un, .un, .un, .un, .un]) (σ := []) (ps := fs) (φ := toF) (fun f => some (.tuple (toRL f.rs)))
    (by simp only [rb_ok, lift_some, o_map, eE_none, eE_bool, eE_int, eE_str, eE_var, eE_glob, eE_bin, eE_neg, eE_not, eE_bop, eB_one, eB_more, eE_cmp, eE_cmp2, eE_ite, eE_tup, eE_list, eE_dict0, eE_dict1, eE_idx, eE_slc, eE_call, eE_bi, eE_meth, eE_freeze, eL_nil, eL_cons, eO_no, eO_yes, eI_seq, eI_range, x_expr, x_asg, x_ite, x_ret, x_pass, x_put, x_for, xs_nil, xs_cons, stepO_next, stepO_ret, look_d, look_loc, look_locs, negR_int, noneR_none, pick_tt, pick_tf, pick_ft, pick_ff, pickO_t, pickO_f, pickB_t, t_bool, b_add, b_sub, c_lt, c_eqI, c_eqS, c_neS, List.getElem?_cons_zero, List.getElem?_cons_succ, List.set_cons_zero, List.set_cons_succ, Bool.not_true, Bool.not_false, decide_true, decide_false, open_tup]) (fun f _ => cF_no _ _ _ _ _ _ (by simp only [rb_ok, lift_some, o_map, eE_none, eE_bool, eE_int, eE_str, eE_var, eE_glob, eE_bin, eE_neg, eE_not, eE_bop, eB_one, eB_more, eE_cmp, eE_cmp2, eE_ite, eE_tup, eE_list, eE_dict0, eE_dict1, eE_idx, eE_slc, eE_call, eE_bi, eE_meth, eE_freeze, eL_nil, eL_cons, eO_no, eO_yes, eI_seq, eI_range, x_expr, x_asg, x_ite, x_ret, x_pass, x_put, x_for, xs_nil, xs_cons, stepO_next, stepO_ret, look_d, look_loc, look_locs, negR_int, noneR_none, pick_tt, pick_tf, pick_ft, pick_ff, pickO_t, pickO_f, pickB_t, t_bool, b_add, b_sub, c_lt, c_eqI, c_eqS, c_neS, List.getElem?_cons_zero, List.getElem?_cons_succ, List.set_cons_zero, List.set_cons_succ, Bool.not_true, Bool.not_false, decide_true, decide_false, tf_2]))
  have k2 : ∀ v2, evalE prog.G (callF prog 99) (.comp false (.var 9) (.seq (.call i_law_all (.cons (.var 1) (.nil)))) (.yes (.cmp .ne (.call i_law_block (.cons (.idx (.var 9) (.int 1)) (.nil))) (.tup (.nil)))) (.call i_law_block (.cons (.idx (.var 9) (.int 1)) (.nil)))) [.d (.list (l.map .int)), .d (.tuple (fs.map toF)), v2, .un, .un, .un, .un, .un, .un, .un, .un, .un] [] = .ok (.d (.list (L.filterMap fun p => if !(toRL (blk p.2)).isEmpty then some (.tuple (toRL (blk p.2))) else none))) [] := fun v2 =>
    comp_seq (callF prog 99) (ps := L) (φ := pairD) (fun p => if !(toRL (blk p.2)).isEmpty then some (.tuple (toRL (blk p.2))) else none)
      (by simp only [rb_ok, lift_some, o_map, eE_none, eE_bool, eE_int, eE_str, eE_var, eE_glob, eE_bin, eE_neg, eE_not, eE_bop, eB_one, eB_more, eE_cmp, eE_cmp2, eE_ite, eE_tup, eE_list, eE_dict0, eE_dict1, eE_idx, eE_slc, eE_call, eE_bi, eE_meth, eE_freeze, eL_nil, eL_cons, eO_no, eO_yes, eI_seq, eI_range, x_expr, x_asg, x_ite, x_ret, x_pass, x_put, x_for, xs_nil, xs_cons, stepO_next, stepO_ret, look_d, look_loc, look_locs, negR_int, noneR_none, pick_tt, pick_tf, pick_ft, pick_ff, pickO_t, pickO_f, pickB_t, t_bool, b_add, b_sub, c_lt, c_eqI, c_eqS, c_neS, List.getElem?_cons_zero, List.getElem?_cons_succ, List.set_cons_zero, List.set_cons_succ, Bool.not_true, Bool.not_false, decide_true, decide_false, ea, open_list]) (fun p _ => by
        have eb := call_block p.2 98 ([] ++ [.busy])
        refine cF_yes _ _ _ _ _ _ _ ?_ ?_
        · simp only [rb_ok, lift_some, o_map, eE_none, eE_bool, eE_int, eE_str, eE_var, eE_glob, eE_bin, eE_neg, eE_not, eE_bop, eB_one, eB_more, eE_cmp, eE_cmp2, eE_ite, eE_tup, eE_list, eE_dict0, eE_dict1, eE_idx, eE_slc, eE_call, eE_bi, eE_meth, eE_freeze, eL_nil, eL_cons, eO_no, eO_yes, eI_seq, eI_range, x_expr, x_asg, x_ite, x_ret, x_pass, x_put, x_for, xs_nil, xs_cons, stepO_next, stepO_ret, look_d, look_loc, look_locs, negR_int, noneR_none, pick_tt, pick_tf, pick_ft, pick_ff, pickO_t, pickO_f, pickB_t, t_bool, b_add, b_sub, c_lt, c_eqI, c_eqS, c_neS, List.getElem?_cons_zero, List.getElem?_cons_succ, List.set_cons_zero, List.set_cons_succ, Bool.not_true, Bool.not_false, decide_true, decide_false, pairD, i2_1, eb, dispT_nil, c_ne, eq_nilT]
        · simp only [rb_ok, lift_some, o_map, eE_none, eE_bool, eE_int, eE_str, eE_var, eE_glob, eE_bin, eE_neg, eE_not, eE_bop, eB_one, eB_more, eE_cmp, eE_cmp2, eE_ite, eE_tup, eE_list, eE_dict0, eE_dict1, eE_idx, eE_slc, eE_call, eE_bi, eE_meth, eE_freeze, eL_nil, eL_cons, eO_no, eO_yes, eI_seq, eI_range, x_expr, x_asg, x_ite, x_ret, x_pass, x_put, x_for, xs_nil, xs_cons, stepO_next, stepO_ret, look_d, look_loc, look_locs, negR_int, noneR_none, pick_tt, pick_tf, pick_ft, pick_ff, pickO_t, pickO_f, pickB_t, t_bool, b_add, b_sub, c_lt, c_eqI, c_eqS, c_neS, List.getElem?_cons_zero, List.getElem?_cons_succ, List.set_cons_zero, List.set_cons_succ, Bool.not_true, Bool.not_false, decide_true, decide_false, pairD, i2_1, eb])
  have fm : (fs.filterMap fun f => some (PyData.tuple (toRL f.rs))) = (fs.map Fd.rs).map fun b => .tuple (toRL b) := by
    rw [List.map_map, ← List.filterMap_eq_map]; rfl
  rw [fm] at k1
  have lm : (L.filterMap fun p => if !(toRL (blk p.2)).isEmpty then some (PyData.tuple (toRL (blk p.2))) else none) = ((L.filter fun p => !(toRL (blk p.2)).isEmpty).map fun p => blk p.2).map fun b => .tuple (toRL b) := by
    clear lok l4 ea k2
    induction L with
    | nil => rfl
    | cons p L ih =>
      rw [List.filterMap_cons, List.filter_cons, ih]
      cases (toRL (blk p.2)).isEmpty <;> rfl
  rw [lm] at k2
  have rok : ∀ b ∈ fs.map Fd.rs ++ (L.filter fun p => !(toRL (blk p.2)).isEmpty).map fun p => blk p.2, okL ws b ∧ hL b ≤ 9 ∧ nL b ≤ 400 := by
    intro b hb
    rcases List.mem_append.mp hb with hb | hb
    · obtain ⟨f, hf, rfl⟩ := List.mem_map.mp hb
      have := fok f hf
      exact ⟨this.2.2.1, this.2.2.2.1, this.2.2.2.2.1⟩
    · obtain ⟨p, hp, rfl⟩ := List.mem_map.mp hb
      have := lok p (List.mem_filter.mp hp).1
      have hb1 := blk_h p.2
      have hb2 := blk_n p.2
      exact ⟨blk_ok this.1, by omega, by omega⟩
  have hlen : ((fs.map Fd.rs).map fun b => PyData.tuple (toRL b)).length + (((L.filter fun p => !(toRL (blk p.2)).isEmpty).map fun p => blk p.2).map fun b => PyData.tuple (toRL b)).length ≤ LIM := by
    have := List.length_filter_le (fun p : PyData × Rw => !(toRL (blk p.2)).isEmpty) L
    simp only [List.length_map]; unfold LIM; omega
  have hap := List.map_append (f := fun b => PyData.tuple (toRL b)) (l₁ := fs.map Fd.rs) (l₂ := (L.filter fun p => !(toRL (blk p.2)).isEmpty).map fun p => blk p.2)
  generalize hrr : fs.map Fd.rs ++ (L.filter fun p => !(toRL (blk p.2)).isEmpty).map (fun p => blk p.2) = rr at rok hap
  have rpos : 0 < ((rr.map fun b => PyData.tuple (toRL b)).length : Int) := by
    rw [← hrr]; simp only [List.length_map, List.length_append]; omega
  obtain ⟨xr, hxr, ixr⟩ := idx_at (l := rr.map fun b => PyData.tuple (toRL b)) (i := cellV l 0 % ((rr.map fun b => PyData.tuple (toRL b)).length : Int)) (emod_range _ rpos).1 (emod_range _ rpos).2 []
  obtain ⟨b, hb, rfl⟩ := List.mem_map.mp hxr
  obtain ⟨bok, bh, bn⟩ := rok b hb
  have sc : ∀ x σ, callF prog 99 i_law_scan [.d (.tuple (toRL b)), .d (.str x)] σ = .ok (.d (pairB (scanL x b false))) σ := fun x σ => call_scan x 9 b 84 σ bok bh
  have d1 : ∀ v1 v2, evalE prog.G (callF prog 99) (.comp false (.var 10) (.seq (.var 4)) (.yes (.idx (.call i_law_scan (.cons (.var 3) (.cons (.var 10) (.nil)))) (.int 0))) (.var 10)) [.d (.list (l.map .int)), v1, v2, .d (.tuple (toRL b)), .d (.list (ws.map .str)), .un, .un, .un, .un, .un, .un, .un] [] = .ok (.d (.list (ws.filterMap fun x => if (scanL x b false).1 then some (.str x) else none))) [] := fun v1 v2 =>
    comp_seq (callF prog 99) (ps := ws) (φ := .str) (fun x => if (scanL x b false).1 then some (.str x) else none)
      (by simp only [rb_ok, lift_some, o_map, eE_none, eE_bool, eE_int, eE_str, eE_var, eE_glob, eE_bin, eE_neg, eE_not, eE_bop, eB_one, eB_more, eE_cmp, eE_cmp2, eE_ite, eE_tup, eE_list, eE_dict0, eE_dict1, eE_idx, eE_slc, eE_call, eE_bi, eE_meth, eE_freeze, eL_nil, eL_cons, eO_no, eO_yes, eI_seq, eI_range, x_expr, x_asg, x_ite, x_ret, x_pass, x_put, x_for, xs_nil, xs_cons, stepO_next, stepO_ret, look_d, look_loc, look_locs, negR_int, noneR_none, pick_tt, pick_tf, pick_ft, pick_ff, pickO_t, pickO_f, pickB_t, t_bool, b_add, b_sub, c_lt, c_eqI, c_eqS, c_neS, List.getElem?_cons_zero, List.getElem?_cons_succ, List.set_cons_zero, List.set_cons_succ, Bool.not_true, Bool.not_false, decide_true, decide_false, open_list]) (fun x _ => by
        refine cF_yes _ _ _ _ _ _ _ ?_ ?_
        · simp only [rb_ok, lift_some, o_map, eE_none, eE_bool, eE_int, eE_str, eE_var, eE_glob, eE_bin, eE_neg, eE_not, eE_bop, eB_one, eB_more, eE_cmp, eE_cmp2, eE_ite, eE_tup, eE_list, eE_dict0, eE_dict1, eE_idx, eE_slc, eE_call, eE_bi, eE_meth, eE_freeze, eL_nil, eL_cons, eO_no, eO_yes, eI_seq, eI_range, x_expr, x_asg, x_ite, x_ret, x_pass, x_put, x_for, xs_nil, xs_cons, stepO_next, stepO_ret, look_d, look_loc, look_locs, negR_int, noneR_none, pick_tt, pick_tf, pick_ft, pick_ff, pickO_t, pickO_f, pickB_t, t_bool, b_add, b_sub, c_lt, c_eqI, c_eqS, c_neS, List.getElem?_cons_zero, List.getElem?_cons_succ, List.set_cons_zero, List.set_cons_succ, Bool.not_true, Bool.not_false, decide_true, decide_false, sc, pairB, i2_0]
        · simp only [rb_ok, lift_some, o_map, eE_none, eE_bool, eE_int, eE_str, eE_var, eE_glob, eE_bin, eE_neg, eE_not, eE_bop, eB_one, eB_more, eE_cmp, eE_cmp2, eE_ite, eE_tup, eE_list, eE_dict0, eE_dict1, eE_idx, eE_slc, eE_call, eE_bi, eE_meth, eE_freeze, eL_nil, eL_cons, eO_no, eO_yes, eI_seq, eI_range, x_expr, x_asg, x_ite, x_ret, x_pass, x_put, x_for, xs_nil, xs_cons, stepO_next, stepO_ret, look_d, look_loc, look_locs, negR_int, noneR_none, pick_tt, pick_tf, pick_ft, pick_ff, pickO_t, pickO_f, pickB_t, t_bool, b_add, b_sub, c_lt, c_eqI, c_eqS, c_neS, List.getElem?_cons_zero, List.getElem?_cons_succ, List.set_cons_zero, List.set_cons_succ, Bool.not_true, Bool.not_false, decide_true, decide_false])
  have d2 : ∀ v1 v2 σ, evalE prog.G (callF prog 99) (.comp false (.var 11) (.seq (.var 4)) (.yes (.not (.idx (.call i_law_scan (.cons (.var 3) (.cons (.var 11) (.nil)))) (.int 1)))) (.var 11)) [.d (.list (l.map .int)), v1, v2, .d (.tuple (toRL b)), .d (.list (ws.map .str)), .loc 0, .un, .un, .un, .un, .un, .un] σ = .ok (.d (.list (ws.filterMap fun x => if !(scanL x b false).2 then some (.str x) else none))) σ := fun v1 v2 σ =>
    comp_seq (callF prog 99) (ps := ws) (φ := .str) (fun x => if !(scanL x b false).2 then some (.str x) else none)
      (by simp only [rb_ok, lift_some, o_map, eE_none, eE_bool, eE_int, eE_str, eE_var, eE_glob, eE_bin, eE_neg, eE_not, eE_bop, eB_one, eB_more, eE_cmp, eE_cmp2, eE_ite, eE_tup, eE_list, eE_dict0, eE_dict1, eE_idx, eE_slc, eE_call, eE_bi, eE_meth, eE_freeze, eL_nil, eL_cons, eO_no, eO_yes, eI_seq, eI_range, x_expr, x_asg, x_ite, x_ret, x_pass, x_put, x_for, xs_nil, xs_cons, stepO_next, stepO_ret, look_d, look_loc, look_locs, negR_int, noneR_none, pick_tt, pick_tf, pick_ft, pick_ff, pickO_t, pickO_f, pickB_t, t_bool, b_add, b_sub, c_lt, c_eqI, c_eqS, c_neS, List.getElem?_cons_zero, List.getElem?_cons_succ, List.set_cons_zero, List.set_cons_succ, Bool.not_true, Bool.not_false, decide_true, decide_false, open_list]) (fun x _ => by
        refine cF_yes _ _ _ _ _ _ _ ?_ ?_
        · simp only [rb_ok, lift_some, o_map, eE_none, eE_bool, eE_int, eE_str, eE_var, eE_glob, eE_bin, eE_neg, eE_not, eE_bop, eB_one, eB_more, eE_cmp, eE_cmp2, eE_ite, eE_tup, eE_list, eE_dict0, eE_dict1, eE_idx, eE_slc, eE_call, eE_bi, eE_meth, eE_freeze, eL_nil, eL_cons, eO_no, eO_yes, eI_seq, eI_range, x_expr, x_asg, x_ite, x_ret, x_pass, x_put, x_for, xs_nil, xs_cons, stepO_next, stepO_ret, look_d, look_loc, look_locs, negR_int, noneR_none, pick_tt, pick_tf, pick_ft, pick_ff, pickO_t, pickO_f, pickB_t, t_bool, b_add, b_sub, c_lt, c_eqI, c_eqS, c_neS, List.getElem?_cons_zero, List.getElem?_cons_succ, List.set_cons_zero, List.set_cons_succ, Bool.not_true, Bool.not_false, decide_true, decide_false, sc, pairB, i2_1]
        · simp only [rb_ok, lift_some, o_map, eE_none, eE_bool, eE_int, eE_str, eE_var, eE_glob, eE_bin, eE_neg, eE_not, eE_bop, eB_one, eB_more, eE_cmp, eE_cmp2, eE_ite, eE_tup, eE_list, eE_dict0, eE_dict1, eE_idx, eE_slc, eE_call, eE_bi, eE_meth, eE_freeze, eL_nil, eL_cons, eO_no, eO_yes, eI_seq, eI_range, x_expr, x_asg, x_ite, x_ret, x_pass, x_put, x_for, xs_nil, xs_cons, stepO_next, stepO_ret, look_d, look_loc, look_locs, negR_int, noneR_none, pick_tt, pick_tf, pick_ft, pick_ff, pickO_t, pickO_f, pickB_t, t_bool, b_add, b_sub, c_lt, c_eqI, c_eqS, c_neS, List.getElem?_cons_zero, List.getElem?_cons_succ, List.set_cons_zero, List.set_cons_succ, Bool.not_true, Bool.not_false, decide_true, decide_false])
  have fm1 := filt_map (fun x => (scanL x b false).1) ws
  have fm2 := filt_map (fun x => !(scanL x b false).2) ws
  have p1 := first_perm wn bok
  have p2 := sure_perm wn bok
  have n1 := List.length_filter_le (fun x => (scanL x b false).1) ws
  have n2 := List.length_filter_le (fun x => !(scanL x b false).2) ws
  rw [fm1] at d1
  rw [fm2] at d2
  generalize ws.filter (fun x => (scanL x b false).1) = D1 at *
  generalize ws.filter (fun x => !(scanL x b false).2) = D2 at *
  have ap : meV .append (.loc 0) [.d (.list (D2.map .str))] [.lst [.list (D1.map .str)]] = .ok (.d .none) [.lst [.list (D1.map .str), .list (D2.map .str)]] := app_ok (n := 0) (l := [.list (D1.map .str)]) rfl (by simp [LIM]) _
  have mo : meOk .append [.lst [.list (D1.map .str)]] (.loc 0) = true := meOk_app (l := [.list (D1.map .str)]) rfl
  have ex : ∀ (x : PyData) (σ : Store), exitV 0 (.d x) σ = .ok (.d x) [] := fun x σ => byR rfl
  have lstep := fun x v1 v2 v6 v7 g => turn_step bok bh bn p1 p2 (by omega) (by omega) 83 x (.d (.list (l.map .int))) v1 v2 (.d (.list (ws.map .str))) v6 v7 .un .un .un .un g
  rw [callF_is (fn := f_law) rfl 99 _ _ rfl]
  show ∃ σ', (execs prog.G (callF prog 99) (.cons (.asg (.var 1) (.call i_law_program (.cons (.var 0) (.cons (.int 2) (.nil))))) (
  .cons (.asg (.var 2) (.comp false (.var 8) (.seq (.var 1)) .no (.idx (.var 8) (.int 2)))) (
  .cons (.asg (.var 2) (.bin .add false (.var 2) (.comp false (.var 9) (.seq (.call i_law_all (.cons (.var 1) (.nil)))) (.yes (.cmp .ne (.call i_law_block (.cons (.idx (.var 9) (.int 1)) (.nil))) (.tup (.nil)))) (.call i_law_block (.cons (.idx (.var 9) (.int 1)) (.nil)))))) (
  .cons (.asg (.var 3) (.idx (.var 2) (.bin .mod false (.call i_law_cell (.cons (.var 0) (.cons (.int 0) (.nil)))) (.bi .len false (.cons (.var 2) (.nil)))))) (
  .cons (.asg (.var 4) (.call i_law_variables (.cons (.var 0) (.cons (.int 2) (.nil))))) (
  .cons (.asg (.var 5) (.list true (.cons (.comp false (.var 10) (.seq (.var 4)) (.yes (.idx (.call i_law_scan (.cons (.var 3) (.cons (.var 10) (.nil)))) (.int 0))) (.var 10)) (.nil)))) (
  .cons (.expr (.meth .append (.var 5) (.cons (.comp false (.var 11) (.seq (.var 4)) (.yes (.not (.idx (.call i_law_scan (.cons (.var 3) (.cons (.var 11) (.nil)))) (.int 1)))) (.var 11)) (.nil)))) (
  .cons (.forr (.var 6) (.range (.int 2)) turnBody) (
  .cons (.ret (.bool true)) (
  .nil)))))))))) [.d (.list (l.map .int)), .un, .un, .un, .un, .un, .un, .un, .un, .un, .un, .un] []).bind (finR 0) = _
  obtain ⟨v7a, ga, sa⟩ := lstep (.int 0) (.d (.tuple (fs.map toF))) (.d (.list (rr.map fun b => PyData.tuple (toRL b)))) .un .un []
  obtain ⟨v7b, gb, sb⟩ := lstep (.int 1) (.d (.tuple (fs.map toF))) (.d (.list (rr.map fun b => PyData.tuple (toRL b)))) (.d (.int 0)) v7a ga
  have r2 : rangeL 0 2 = [.int 0, .int 1] := rfl
  refine ⟨[], ?_⟩
  simp only [rb_ok, lift_some, o_map, eE_none, eE_bool, eE_int, eE_str, eE_var, eE_glob, eE_bin, eE_neg, eE_not, eE_bop, eB_one, eB_more, eE_cmp, eE_cmp2, eE_ite, eE_tup, eE_list, eE_dict0, eE_dict1, eE_idx, eE_slc, eE_call, eE_bi, eE_meth, eE_freeze, eL_nil, eL_cons, eO_no, eO_yes, eI_seq, eI_range, x_expr, x_asg, x_ite, x_ret, x_pass, x_put, x_for, xs_nil, xs_cons, stepO_next, stepO_ret, look_d, look_loc, look_locs, negR_int, noneR_none, pick_tt, pick_tf, pick_ft, pick_ff, pickO_t, pickO_f, pickB_t, t_bool, b_add, b_sub, c_lt, c_eqI, c_eqS, c_neS, List.getElem?_cons_zero, List.getElem?_cons_succ, List.set_cons_zero, List.set_cons_succ, Bool.not_true, Bool.not_false, decide_true, decide_false, ep, k1, k2, b_addL hlen, ← hap, mkL_f, c0, len_list, b_mod _ _ rpos, ixr, v4, d1, dispL_one, mkL_t, List.length_nil, List.nil_append, mo, d2, ap, rangeR_int _ (by decide : (-100000 : Int) ≤ 2 ∧ (2 : Int) ≤ 100000), lock_none, unlock_none, r2, lo_cons, sa, nextO_next, sb, lo_nil, finR_ret, ex]
end Mine.L03

open PySem PySem.W PyProof.Rows
set_option Elab.async false
namespace Mine
set_option maxRecDepth 100000
noncomputable def q03 : Program := PySem.W.view PySem.Challenge.pw_uf010014_03 [1, 2, 4, 5, 6, 7, 8, 9, 10, 12, 13, 14, 15, 16, 17, 18, 19, 20, 21, 22, 23, 24, 25, 26, 27, 28, 29, 30, 31, 32]
theorem said03 : OpenLaw.wellSaid PySem.Challenge.rw_uf010014_03 = true := by kernel_rfl
theorem left03 : LeftO PySem.Challenge.pw_uf010014_03 q03 [] (fun s => xlAt q03 [] s && recOk (RowW.records (OpenRow.toRowW (OpenLaw.row PySem.Challenge.rw_uf010014_03))) s) (Hook.obs Hook.none) (Hook.val Hook.none) 2010 := fun w => by kernel_rfl
end Mine
namespace Mine.L03
set_option maxRecDepth 100000
theorem chk : (fns.all fun fn => checkFn (recsOf q03) prog.P gnames fn) = true := by decide +kernel
theorem frees : freeNames (namesW q03 []) = true := by decide +kernel
theorem globs_ok : ∀ k x, prog.G k = some x → (gnames k, x) ∈ scalarsOf [] ++ constsW q03 ∧ flatGood x = true := by
  intro k x h
  cases h
end Mine.L03
set_option maxRecDepth 100000 in
set_option maxHeartbeats 8000000 in
theorem PySem.Challenge.cw_uf010014_03_holds : PySem.Challenge.rw_uf010014_03.Holds := by
  refine holds_law Mine.said03 fun said => ?_
  refine holds_open (q := Mine.q03) (loose := []) (Xt := fun s => xlAt Mine.q03 [] s && recOk (RowW.records (OpenRow.toRowW (OpenLaw.row PySem.Challenge.rw_uf010014_03))) s) (XP := XL Mine.q03 []) (Yf := Hook.obs Hook.none) (Ya := Hook.val Hook.none) (YP := Hook.says Hook.none) (N := 2010) Mine.left03 (Hook.of Hook.none) (Hook.keeps Hook.none) (fun s e => xl_of s (Bool.and_eq_true_iff.mp e).1) XL.keeps (by rfl) (by rfl) (by rfl) (fun s e => recFacts_of (Bool.and_eq_true_iff.mp e).2) (by rfl) said (by decide +kernel) ⟨rfl, rfl, rfl, rfl, rfl, by decide +kernel⟩ ?hw ?hc
  case hw => w_witness2
  case hc =>
    intro w s₀ s₁ mg mb G Y fa o pm cd doc dV kV ho hd hcd hD hmg hg args vals as hpre hlay hrd hwl hlo
    have V := (Ground.X G).2
    have GL := glob_more (Ground.glob G (by decide +kernel) (by decide +kernel)) V
    refine Ground.open G ?_
    intro T B D TE TW
    obtain ⟨_, _, M⟩ := bmod_of_top T
    have TA := at_of_top T
    have hmg' : mg (Str.ofString "law") = some (Value.ref fa) := hmg
    have hos := hg
    clear hmg
    wrow_args hpre hlay hrd hwl hlo
    rename_i l _ _ _ _ _ _ _ _ _ _ _ _ hw _ _ _ hlen _
    obtain ⟨σ', hrun⟩ := Mine.L03.result l
    refine Mine.run_law (p := Mine.L03.prog) (gn := Mine.gnames) (i := Mine.L03.i_law) (fn := Mine.L03.f_law) (Mine.static_of GL TA rfl Mine.L03.chk Mine.L03.frees (Mine.globs_of GL Mine.L03.globs_ok)) rfl hmg' hw (by unfold Mine.LIM; omega) (by omega) hrun fun s' hk ho hgn => ?_
    exact GoodW.toG ⟨.inl ⟨_, .bool true, [], rfl, fun _ => rfl, .bool true, postW_of (X := true) (by with_unfolding_all rfl) (by with_unfolding_all rfl) rfl, fun h => ⟨.nil, fun a ha => by cases ha⟩⟩, hk, ho, hgn.trans hos⟩

