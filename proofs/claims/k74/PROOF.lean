import PyProof.Rows.All
import Wide.All
import OpenK.AllK
import Wide.FinOn
import KE.SortKeyed
import KE.DataMinMax
import KE.KeyNested
import HandS.ForMost
import HandS.Defaults
import KE.KDictKeyed
import KE.KDictDisplayH
import HandS.TupAny
import HandS.Deep
import HandS.Wide
import KE.DataCmp
import KE.SortData
import HandS.TupLen
import HandS.ReCall
import KE.KDictSum
import KE.KDictCopyH
import HandS.Star
import HandS.List
import HandS.Property
import HandS.IsInst
import KE.DataFind
import HandS.DictComp
import HandS.Zip
import KE.GoesEnum
import HandS.Comp
import PyProof.DictCompW
import HandS.Style
import HandS.Exc
import KE.KStateDown
import HandS.Base
import HandS.Call
import HandS.Ends
import HandS.HeadHook1
import HandS.HeadHook2
import HandS.Head0
import HandS.More
import HandS.Words
import HandS.WordsExc
import HandS.Head1
import HandS.Head2
import HandS.HeadEnd
import PySem.Challenge.RW_lowersteps_k74_across_valleys_of_energie
set_option linter.all false
/-! V1: a small language of values (mini-Python), its meaning as a plain Lean function. No machine here. -/
namespace VL
open PySem PySem.W

abbrev D := PyData

/-- an instance of the class number c, its fields in order -/
@[reducible] def Dins (c : Nat) (fs : List D) : D := .dict [(.none, .int c), (.none, .list fs)]
/-- not an instance -/
def plainD : List (D × D) → Bool
  | [(.none, .int _), (.none, .list _)] => false
  | _ => true
/-- class and fields -/
def insOf : D → Option (Int × List D)
  | .dict [(.none, .int c), (.none, .list fs)] => some (c, fs)
  | _ => none
/-- the script: a list of whole numbers that stands still -/
@[reducible] def Dscr (ns : List Int) : D := Dins 99 [.list (ns.map .int)]
theorem insOf_ins (c : Nat) (fs : List D) : insOf (Dins c fs) = some ((c : Int), fs) := rfl

/-! ### keys -/
mutual
def keyOf : D → Option NestedKey
  | .none => some .none
  | .bool b => some (.num (if b then 1 else 0))
  | .int i => some (.num i)
  | .str x => some (.text x)
  | .tuple ds => (keysOf ds).map .tup
  | _ => none
def keysOf : List D → Option (List NestedKey)
  | [] => some []
  | d :: ds => match keyOf d, keysOf ds with
    | some k, some ks => some (k :: ks)
    | _, _ => none
end
/-- a key that is a tuple -/
def keyT : D → Option NestedKey
  | .tuple ds => match keysOf ds with
    | some ks => if (NestedKey.tup ks).depth ≤ 8 then some (.tup ks) else none
    | none => none
  | _ => none
theorem keyT_some {d : D} {k : NestedKey} (h : keyT d = some k) : keyOf d = some k ∧ k.depth ≤ 8 ∧ ∃ ds, d = .tuple ds := by
  unfold keyT at h
  split at h
  · split at h
    · rename_i ks e
      split at h
      · rename_i q
        cases h
        exact ⟨by rw [keyOf, e]; rfl, q, _, rfl⟩
      · cases h
    · cases h
  · cases h
def keyIs (k : NestedKey) (p : D × D) : Bool := match keyOf p.1 with
  | some k' => decide (k' = k)
  | none => false
def dfind (kvs : List (D × D)) (k : NestedKey) : Option D := (kvs.find? (keyIs k)).map (·.2)
def dput (kvs : List (D × D)) (kd : D) (k : NestedKey) (v : D) : List (D × D) :=
  if kvs.any (keyIs k) then kvs.map fun p => if keyIs k p then (p.1, v) else p else kvs ++ [(kd, v)]

/-- how many fields an instance of a class has: 0 is the tape of draws -/
def nf : Nat → Nat
  | 1 => 2
  | 2 => 6
  | _ => 0
/-- may stand still: no tape, no unfinished instance -/
def fzOk (d : D) : Bool := match insOf d with
  | some (c, fs) => decide (c ≠ 0) && decide (fs.length = nf c.toNat)
  | none => true

/-! ### results -/
def kL (tp : Bool) : Str := if tp then "rest" else "left"
def kG (tp : Bool) : Str := if tp then "large" else "great"
def kI (f tp : Bool) : Str := if f then "turn" else kL tp
/-- what an expression hands back: a value that stands still; a new object of nobody; what the slot i owns -/
inductive Rv where
  | sh (d : D) | fr (d : D) | ow (i : Nat)
/-- a slot: without a value, a value that stands still, an object that this frame owns -/
inductive SV where
  | un | sh (d : D) | ow (d : D)
abbrev Ev := List SV
def Rv.get (ρ : Ev) : Rv → Option D
  | .sh d => some d
  | .fr d => some d
  | .ow i => match ρ[i]? with
    | some (.sh d) => some d
    | some (.ow d) => some d
    | _ => none
/-- let a value stand still -/
def Rv.fz (ρ : Ev) : Rv → Option (D × Ev)
  | .sh d => some (d, ρ)
  | .fr d => if fzOk d then some (d, ρ) else none
  | .ow i => match ρ[i]? with
    | some (.sh d) => some (d, ρ)
    | some (.ow d) => if fzOk d then some (d, ρ.set i (.sh d)) else none
    | _ => none
/-- an operand: a new object stands still -/
def Rv.op : Rv → Option Rv
  | .fr d => if fzOk d then some (.sh d) else none
  | r => some r

/-! ### operators -/
inductive MOp where
  | add | sub | mul | fdiv | mod | pow
  deriving DecidableEq
inductive COp where
  | eq | ne | lt | le | gt | ge | isN | notN | isin | notin
  deriving DecidableEq
def lim : Nat := 1000000
def bits (i : Int) : Nat := i.natAbs.log2
def okD (d : D) : Bool := d.canLay0 && decide (d.depth ≤ 20)

def addD : D → D → Option Rv
  | .int i, .int j => some (.sh (.int (i + j)))
  | .list a, .list b => if a.length + b.length ≤ lim then some (.fr (.list (a ++ b))) else none
  | .tuple a, .tuple b => if a.length + b.length ≤ lim then some (.sh (.tuple (a ++ b))) else none
  | _, _ => none
def subD : D → D → Option Rv
  | .int i, .int j => some (.sh (.int (i - j)))
  | _, _ => none
def mulD : D → D → Option Rv
  | .int i, .int j => if i.natAbs < 2 ^ 64 ∨ j.natAbs < 2 ^ 64 then some (.sh (.int (i * j))) else none
  | _, _ => none
def fdivD : D → D → Option Rv
  | .int i, .int j => if j ≠ 0 ∧ j.natAbs < 1073741824 then some (.sh (.int (i.fdiv j))) else none
  | _, _ => none
def modD : D → D → Option Rv
  | .int i, .int j => if j ≠ 0 then some (.sh (.int (i.fmod j))) else none
  | _, _ => none
def powD : D → D → Option Rv
  | .int i, .int j => if 0 ≤ j ∧ j ≤ 100 ∧ i.natAbs < 2 ^ 64 then some (.sh (.int (i ^ j.toNat))) else none
  | _, _ => none
def binD : MOp → D → D → Option Rv
  | .add => addD | .sub => subD | .mul => mulD | .fdiv => fdivD | .mod => modD | .pow => powD

def memD (ds : List D) (d : D) : Bool := ds.any fun z => PyData.eqv z d
def inD (d : D) : D → Option Bool
  | .list ds => if okD d ∧ okD (.list ds) then some (memD ds d) else none
  | .tuple ds => if okD d ∧ okD (.tuple ds) then some (memD ds d) else none
  | .dict kvs => match keyT d with
    | some k => if plainD kvs then some (dfind kvs k).isSome else none
    | none => none
  | _ => none
def notNone : D → Bool
  | .none => false
  | _ => true
def gtD (a b : D) : Option Bool := if alike a b ∧ okD a ∧ okD b ∧ notNone a then some (dataLt b a) else none
def ltD (a b : D) : Option Bool := if alike a b ∧ okD a ∧ okD b ∧ notNone a then some (dataLt a b) else none
def eqD (a b : D) : Option Bool := if okD a ∧ okD b then some (PyData.eqv a b) else none
def isND (a : D) : D → Option Bool
  | .none => some (!notNone a)
  | _ => none
def cmpD : COp → D → D → Option Bool
  | .eq => eqD
  | .ne => fun a b => (eqD a b).map (!·)
  | .lt => ltD
  | .gt => gtD
  | .le => fun a b => (gtD a b).map (!·)
  | .ge => fun a b => (ltD a b).map (!·)
  | .isN => isND
  | .notN => fun a b => (isND a b).map (!·)
  | .isin => inD
  | .notin => fun a b => (inD a b).map (!·)

/-! ### built-ins -/
inductive BI where
  | len | abs | int | tuple | list | sorted | sum | all | any | min | max
  deriving DecidableEq
inductive Ty where
  | int | bool | str | tuple | list | dict | cls (c : Nat)
  deriving DecidableEq
def isTy (d : D) : Ty → Bool
  | .int => match d with | .int _ => true | .bool _ => true | _ => false
  | .bool => match d with | .bool _ => true | _ => false
  | .str => match d with | .str _ => true | _ => false
  | .tuple => match d with | .tuple _ => true | _ => false
  | .list => match d with | .list _ => true | _ => false
  | .dict => match d with | .dict kvs => plainD kvs | _ => false
  | .cls c => match insOf d with | some (c', _) => decide (c' = c) | none => false
def intsOf : List D → Option (List Int)
  | [] => some []
  | .int i :: r => (intsOf r).map (i :: ·)
  | _ => none
def boolsOf : List D → Option (List Bool)
  | [] => some []
  | .bool b :: r => (boolsOf r).map (b :: ·)
  | _ => none
/-- the items of a list, a tuple, the keys of a dict -/
def itemsOf : D → Option (List D)
  | .list ds => some ds
  | .tuple ds => some ds
  | .dict [(.none, .int 99), (.none, .list [.list ds])] => some ds
  | .dict kvs => if plainD kvs then some (kvs.map (·.1)) else none
  | _ => none
def alikeB (ds : List D) : Bool := ds.all fun x => ds.all fun y => alike x y
def isTup1 : D → Bool
  | .tuple (_ :: _) => true
  | _ => false
def isAtom : D → Bool
  | .none => false
  | .tuple _ => false
  | _ => true
/-- can be sorted -/
def sortOk (ds : List D) : Bool := alikeB ds && (ds.all isTup1 || ds.all isAtom) && okD (.list ds) && decide (ds.length ≤ lim)
def sortD (ds : List D) : List D := ds.mergeSort (dataLe false id)
def cmpOk (ds : List D) : Bool := alikeB ds && ds.all notNone && okD (.list ds)
def lenB : List D → Option Rv
  | [.list ds] => some (.sh (.int ds.length))
  | [.tuple ds] => some (.sh (.int ds.length))
  | [.dict [(.none, .int 99), (.none, .list [.list ds])]] => some (.sh (.int ds.length))
  | [.dict kvs] => if plainD kvs then some (.sh (.int kvs.length)) else none
  | _ => none
def absB : List D → Option Rv
  | [.int i] => some (.sh (.int (if i < 0 then -i else i)))
  | _ => none
def intB : List D → Option Rv
  | [.int i] => some (.sh (.int i))
  | [.bool b] => some (.sh (.int (if b then 1 else 0)))
  | _ => none
def tupleB : List D → Option Rv
  | [.list ds] => some (.sh (.tuple ds))
  | [.tuple ds] => some (.sh (.tuple ds))
  | _ => none
def listB : List D → Option Rv
  | [.list ds] => some (.fr (.list ds))
  | [.tuple ds] => some (.fr (.list ds))
  | [.dict kvs] => if plainD kvs then some (.fr (.list (kvs.map (·.1)))) else none
  | _ => none
def sortedB : List D → Option Rv
  | [.list ds] => if sortOk ds then some (.fr (.list (sortD ds))) else none
  | [.dict kvs] => if plainD kvs ∧ sortOk (kvs.map (·.1)) then some (.fr (.list (sortD (kvs.map (·.1))))) else none
  | _ => none
def sumB : List D → Option Rv
  | [.list ds] => match intsOf ds with
    | some ns => some (.sh (.int ns.sum))
    | none => none
  | _ => none
def allB : List D → Option Rv
  | [.list ds] => match boolsOf ds with
    | some bs => some (.sh (.bool (bs.all id)))
    | none => none
  | _ => none
def anyB : List D → Option Rv
  | [.list ds] => match boolsOf ds with
    | some bs => some (.sh (.bool (bs.any id)))
    | none => none
  | _ => none
def minB : List D → Option Rv
  | [.list (d :: ds)] => if cmpOk (d :: ds) then some (.sh (minD d ds)) else none
  | [.int i, .int j] => some (.sh (.int (if j < i then j else i)))
  | _ => none
def maxB : List D → Option Rv
  | [.list (d :: ds)] => if cmpOk (d :: ds) then some (.sh (maxD d ds)) else none
  | [.int i, .int j] => some (.sh (.int (if j > i then j else i)))
  | _ => none
def biD : BI → List D → Option Rv
  | .len => lenB | .abs => absB | .int => intB | .tuple => tupleB | .list => listB | .sorted => sortedB | .sum => sumB | .all => allB | .any => anyB | .min => minB | .max => maxB
/-- of a dict's values -/
def biV : BI → List D → Option Rv
  | .sorted, ds => if sortOk ds then some (.fr (.list (sortD ds))) else none
  | .max, d :: ds => if cmpOk (d :: ds) then some (.sh (maxD d ds)) else none
  | .min, d :: ds => if cmpOk (d :: ds) then some (.sh (minD d ds)) else none
  | .list, ds => some (.fr (.list ds))
  | _, _ => none

/-! ### subscripts -/
def ixN (n : Nat) (i : Int) : Option Nat := if 0 ≤ i then (if i < n then some i.toNat else none) else if -(n : Int) ≤ i then some (i + n).toNat else none
def ixAt {α : Type} (xs : List α) (i : Int) : Option α := (ixN xs.length i).bind fun j => xs[j]?
def ixD : D → D → Option D
  | .list ds, .int i => ixAt ds i
  | .tuple ds, .int i => ixAt ds i
  | .dict kvs, d => match keyT d with
    | some k => if plainD kvs then dfind kvs k else none
    | none => none
  | _, _ => none
/-- xs[lo:hi] of whole numbers or nothing -/
def sIx (n d : Nat) : Option Int → Nat
  | none => d
  | some v => if v < 0 then (v + (n : Int)).toNat else min v.toNat n
def cut {α : Type} (xs : List α) (lo hi : Option Int) : List α := (xs.drop (sIx xs.length 0 lo)).take (sIx xs.length xs.length hi - sIx xs.length 0 lo)

/-! ### the syntax -/
inductive MT where
  | nm (i : Nat) | tp (is : List Nat)
  deriving DecidableEq
mutual
inductive ME where
  | var (i : Nat) | int (n : Int) | bl (b : Bool) | non
  | bin (op : MOp) (a b : ME)
  | neg (a : ME)
  | cmp (op : COp) (a b : ME)
  | chain (op op' : COp) (a b c : ME)
  | and (a b : ME) | or (a b : ME) | not (a : ME)
  | ite (c a b : ME)
  | tup (es : MA) | lst (es : MA)
  | dic0 | dic1 (k v : ME)
  | call (f : Nat) (es : MA) (dfl : List D)
  | new (c f : Nat) (es : MA)
  | bi (b : BI) (es : MA)
  | biv (b : BI) (e : ME)
  | lrng (e : ME)
  | ist (e : ME) (ts : List Ty)
  | ix (a i : ME)
  | slc (a : ME) (lo hi : MA)
  | fld (e : ME) (c j : Nat)
  | prop (e : ME) (c f : Nat)
  | cnt (a e : ME)
  | pop (i : Nat) (e : ME)
  | tint (i : Nat) (f tp : Bool) | tcells (i : Nat) | tfull (i : Nat) (tp : Bool) | tpop (i : Nat) (tp : Bool)
  | comp (own : List Nat) (t : MT) (it : MI) (cs : MA) (e : ME)
  | comp2 (own own1 : List Nat) (t : MT) (it : MI) (cs : MA) (t1 : MT) (it1 : MI) (cs1 : MA) (e : ME)
  | dcomp (own : List Nat) (t : MT) (it : MI) (cs : MA) (k v : ME)
inductive MA where
  | nil | cons (e : ME) (r : MA) | star (e : ME) (r : MA)
inductive MI where
  | seq (e : ME) | rng1 (e : ME) | rng2 (a b : ME) | enum (e : ME) | zip (a b : ME) | items (e : ME) | cst (ds : MA)
end
mutual
inductive MS where
  | pass
  | ret (e : ME) | retn
  | set (i : Nat) (own : Bool) (e : ME)
  | par (is : List Nat) (bs : List Bool) (es : MA)
  | unp (is : List Nat) (e : ME)
  | aug (op : MOp) (i : Nat) (e : ME)
  | ite (c : ME) (a b : MB)
  | for_ (t : MT) (it : MI) (b : MB)
  | whl (c : ME) (b : MB)
  | expr (e : ME)
  | app (i : Nat) (e : ME)
  | ext (i : Nat) (e : ME)
  | put (i : Nat) (k v : ME)
  | sfld (i : Nat) (c j : Nat) (e : ME)
  | tset (i : Nat) (f tp : Bool) (e : ME)
  | rtape (i : Nat) (tp : Bool) (e : ME)
  | brk | cnt | stuck
inductive MB where
  | nil | cons (s : MS) (r : MB)
end

/-! ### outcomes -/
/-- nothing is said; an exception (its datum); a value -/
inductive Res (α : Type) where
  | bad | ex (d : D) | ok (a : α)
def Res.bind {α β : Type} (x : Res α) (f : α → Res β) : Res β := match x with
  | .bad => .bad
  | .ex d => .ex d
  | .ok a => f a
instance : Monad Res where
  pure := .ok
  bind := Res.bind
def Res.ofO {α : Type} : Option α → Res α
  | none => .bad
  | some a => .ok a
instance : MonadLift Option Res := ⟨Res.ofO⟩
def Res.noEx {α : Type} : Res α → Res α
  | .ex _ => .bad
  | r => r
def wpR {α : Type} (E : D → Prop) (Q : α → Prop) : Res α → Prop
  | .bad => False
  | .ex d => E d
  | .ok a => Q a
theorem wpR_bind {α β : Type} {E : D → Prop} {Q : β → Prop} {x : Res α} {f : α → Res β} : wpR E Q (x >>= f) ↔ wpR E (fun a => wpR E Q (f a)) x := by
  cases x <;> exact Iff.rfl
theorem wpR_pure {α : Type} {E : D → Prop} {Q : α → Prop} {a : α} : wpR E Q (pure a) ↔ Q a := Iff.rfl
theorem wpR_ok {α : Type} {E : D → Prop} {Q : α → Prop} {a : α} : wpR E Q (.ok a) ↔ Q a := Iff.rfl
theorem wpR_bad {α : Type} {E : D → Prop} {Q : α → Prop} : wpR E Q (.bad : Res α) ↔ False := Iff.rfl
theorem wpR_ofO {α : Type} {E : D → Prop} {Q : α → Prop} {o : Option α} : wpR E Q (Res.ofO o) ↔ ∃ a, o = some a ∧ Q a := by
  cases o with
  | none => simp [Res.ofO, wpR]
  | some a => simp [Res.ofO, wpR]
theorem wpR_lift {α : Type} {E : D → Prop} {Q : α → Prop} {o : Option α} : wpR E Q (liftM o : Res α) ↔ ∃ a, o = some a ∧ Q a := wpR_ofO
theorem wpR_noEx {α : Type} {E : D → Prop} {Q : α → Prop} {x : Res α} : wpR E Q x.noEx ↔ wpR (fun _ => False) Q x := by
  cases x <;> exact Iff.rfl
theorem wpR_mono {α : Type} {E E' : D → Prop} {Q Q' : α → Prop} {x : Res α} (h : wpR E Q x) (hE : ∀ d, E d → E' d) (hQ : ∀ a, Q a → Q' a) : wpR E' Q' x := by
  cases x with
  | bad => exact h
  | ex d => exact hE d h
  | ok a => exact hQ a h
theorem wpR_false {α : Type} {Q : α → Prop} {x : Res α} (h : wpR (fun _ => False) Q x) : ∃ a, x = .ok a ∧ Q a := by
  cases x with
  | bad => exact h.elim
  | ex d => exact h.elim
  | ok a => exact ⟨a, rfl, h⟩

/-! ### defs -/
/-- a def: which parameters are handed in owned, whether it hands back a new object, what it tells: the value, and the owned parameters behind it -/
structure MFn where
  mp : List Nat
  fresh : Bool
  run : List D → Res (D × List D)
abbrev Fns := Nat → MFn

/-! ### the meaning -/
abbrev FE := Ev → Res (Rv × Ev)
abbrev FA := Ev → Res (List D × Ev)
abbrev FR := Ev → Res (List Rv × Ev)
abbrev FC := Ev → Res (Bool × Ev)
abbrev FO := Ev → Res (Option Int × Ev)
inductive Out where
  | nx (ρ : Ev) | rt (r : Rv) (ρ : Ev) | bk (ρ : Ev) | ct (ρ : Ev)
abbrev FS := Ev → Res Out

def wipeE (own : List Nat) (ρ : Ev) : Ev := own.foldr (fun i ρ => ρ.set i .un) ρ
def fzSlot (i : Nat) (ρ : Ev) : Ev := match ρ[i]? with
  | some (.ow d) => ρ.set i (.sh d)
  | _ => ρ
def setAll : List Nat → List D → Ev → Option Ev
  | [], [], ρ => some ρ
  | i :: is, d :: ds, ρ => setAll is ds (ρ.set i (.sh d))
  | _, _, _ => none
def asgT : MT → D → Ev → Option Ev
  | .nm i, d, ρ => some (ρ.set i (.sh d))
  | .tp is, .tuple ds, ρ => setAll is ds ρ
  | _, _, _ => none
def enumD : Nat → List D → List D
  | _, [] => []
  | n, d :: ds => .tuple [.int n, d] :: enumD (n + 1) ds
def zipD : List D → List D → List D
  | a :: as, b :: bs => .tuple [a, b] :: zipD as bs
  | _, _ => []
def rngD (lo : Int) (n : Nat) : List D := (List.range n).map fun i => .int (lo + (i : Nat))
/-- the slots of the owned arguments -/
def mutSlots : List Nat → List Rv → Option (List Nat)
  | [], _ => some []
  | j :: js, rs => match rs[j]? with
    | some (.ow i) => (match mutSlots js rs with
      | some is => if i ∈ is then none else some (i :: is)
      | none => none)
    | _ => none
/-- what the owned arguments are -/
def allOwn : List Nat → Ev → Bool
  | [], _ => true
  | i :: is, ρ => (match ρ[i]? with | some (.ow _) => true | _ => false) && allOwn is ρ
/-- the owned arguments behind a call -/
def putBack : List Nat → List D → Ev → Option Ev
  | [], [], ρ => some ρ
  | i :: is, d :: ds, ρ => putBack is ds (ρ.set i (.ow d))
  | _, _, _ => none
def fuel : Nat := 10 ^ 40

/-! expressions -/
def getsR (ρ : Ev) : List Rv → Option (List D)
  | [] => some []
  | r :: rs => match r.get ρ, getsR ρ rs with
    | some d, some ds => some (d :: ds)
    | _, _ => none
def fVar (i : Nat) : FE := fun ρ => match ρ[i]? with
  | some (.sh d) => .ok (.sh d, ρ)
  | some (.ow _) => .ok (.ow i, ρ)
  | _ => .bad
def fC (d : D) : FE := fun ρ => .ok (.sh d, ρ)
def fUn (fa : FE) (g : D → Option Rv) : FE := fun ρ => do
  let x ← fa ρ
  let a ← x.1.op
  let y ← a.get x.2
  let r ← g y
  pure (r, x.2)
def fBin (fa fb : FE) (g : D → D → Option Rv) : FE := fun ρ => do
  let x ← fa ρ
  let a ← x.1.op
  let y ← fb x.2
  let b ← y.1.op
  let c ← a.get y.2
  let d ← b.get y.2
  let r ← g c d
  pure (r, y.2)
def bl (b : Bool) : Rv := .sh (.bool b)
def negD : D → Option Rv
  | .int i => some (.sh (.int (-i)))
  | _ => none
def cmpR (op : COp) (x y : D) : Option Rv := (cmpD op x y).map bl
def fChain (fa fb fc : FE) (op op' : COp) : FE := fun ρ => do
  let x ← fa ρ
  let a ← x.1.op
  let y ← fb x.2
  let b ← y.1.op
  let c ← a.get y.2
  let d ← b.get y.2
  let r ← cmpD op c d
  if r then do
    let z ← fc y.2
    let e ← z.1.op
    let d' ← b.get z.2
    let e' ← e.get z.2
    let r' ← cmpD op' d' e'
    pure (bl r', z.2)
  else pure (bl false, y.2)
def boolOf : Rv → Option Bool
  | .sh (.bool b) => some b
  | _ => none
def fTest (fa : FE) : FC := fun ρ => do
  let x ← fa ρ
  let b ← boolOf x.1
  pure (b, x.2)
def fAnd (fa fb : FE) : FE := fun ρ => do
  let x ← fTest fa ρ
  if x.1 then fb x.2 else pure (bl false, x.2)
def fOr (fa fb : FE) : FE := fun ρ => do
  let x ← fTest fa ρ
  if x.1 then pure (bl true, x.2) else fb x.2
def fNot (fa : FE) : FE := fun ρ => do
  let x ← fTest fa ρ
  pure (bl (!x.1), x.2)
def fIte (fc fa fb : FE) : FE := fun ρ => do
  let x ← fTest fc ρ
  if x.1 then fa x.2 else fb x.2
def fTup (fa : FA) : FE := fun ρ => do
  let x ← fa ρ
  if x.1.length ≤ lim then pure (.sh (.tuple x.1), x.2) else .bad
def fLst (fa : FA) : FE := fun ρ => do
  let x ← fa ρ
  if x.1.length ≤ lim then pure (.fr (.list x.1), x.2) else .bad
def fFz (fa : FE) : Ev → Res (D × Ev) := fun ρ => do
  let x ← fa ρ
  let y ← x.1.fz x.2
  pure y
def dic1 (k v : D) : Option Rv := match keyT k with
  | some _ => if plainD [(k, v)] then some (.fr (.dict [(k, v)])) else none
  | none => none
def fDic0 : FE := fun ρ => .ok (.fr (.dict []), ρ)
def fDic1 (fk fv : FE) : FE := fun ρ => do
  let x ← fFz fk ρ
  let y ← fFz fv x.2
  let r ← dic1 x.1 y.1
  pure (r, y.2)
def fCall (m : MFn) (fm : FR) (dfl : List D) : FE := fun ρ => do
  let x ← fm ρ
  let is ← mutSlots m.mp x.1
  let ds ← getsR x.2 x.1
  let r ← (m.run (ds ++ dfl)).noEx
  if allOwn is x.2 then do
    let ρ2 ← putBack is r.2 x.2
    pure (if m.fresh then .fr r.1 else .sh r.1, ρ2)
  else .bad
def fNew (m : MFn) (c : Nat) (fa : FA) : FE := fun ρ => do
  let x ← fa ρ
  match ← (m.run (Dins c [] :: x.1)).noEx with
  | (.none, [d]) => pure (.fr d, x.2)
  | _ => .bad
def fBi (b : BI) (fo : FR) : FE := fun ρ => do
  let x ← fo ρ
  let ds ← getsR x.2 x.1
  let r ← biD b ds
  pure (r, x.2)
def bivR (b : BI) : D → Option Rv
  | .dict kvs => if plainD kvs then biV b (kvs.map (·.2)) else none
  | _ => none
def lstRng (fa : FE) : FE := fun ρ => do
  let x ← fa ρ
  match x.1 with
  | .sh (.int n) => if n ≤ lim ∧ -lim ≤ n then pure (.fr (.list (rngD 0 n.toNat)), x.2) else .bad
  | _ => .bad
def istOk : D → Bool
  | .dict kvs => (match insOf (.dict kvs) with
    | some (c, _) => decide (c ≠ 0) && decide (c ≠ 99)
    | none => false)
  | _ => true
def istR (ts : List Ty) (d : D) : Option Rv := if istOk d then some (bl (ts.any (isTy d))) else none
def ixR (x y : D) : Option Rv := (ixD x y).map .sh
def fldR (c j : Nat) (d : D) : Option Rv := match insOf d with
  | some (c', fs) => if c' = c then (fs[j]?).map .sh else none
  | none => none
def cntR (x y : D) : Option Rv := match x with
  | .list ds => if okD y ∧ okD (.list ds) then some (.sh (.int (ds.countP fun z => PyData.eqv z y))) else none
  | _ => none
def cutR (d : D) (l h : Option Int) : Option Rv := match d with
  | .list ds => some (.fr (.list (cut ds l h)))
  | .tuple ds => some (.sh (.tuple (cut ds l h)))
  | _ => none
def fSlc (fa : FE) (fl fh : FO) : FE := fun ρ => do
  let x ← fa ρ
  let a ← x.1.op
  let l ← fl x.2
  let h ← fh l.2
  let d ← a.get h.2
  let r ← cutR d l.1 h.1
  pure (r, h.2)
def fNoPart : FO := fun ρ => .ok (none, ρ)
def fPart (fa : FE) : FO := fun ρ => do
  let x ← fa ρ
  match x.1 with
  | .sh (.int i) => if i.natAbs ≤ lim then pure (some i, x.2) else .bad
  | _ => .bad
def propOk (m : MFn) (c : Nat) (d : D) : Bool := m.mp.isEmpty && !m.fresh && (match insOf d with
  | some (c', _) => decide (c' = c)
  | none => false)
def fProp (m : MFn) (c : Nat) (fa : FE) : FE := fun ρ => do
  let x ← fFz fa ρ
  let r ← (m.run [x.1]).noEx
  if propOk m c x.1 then pure (.sh r.1, x.2) else .bad
def popR (r : Rv) (v : Option SV) : Option (D × D) := match r, v with
  | .sh (.int j), some (.ow (.list ds)) => if 0 ≤ j ∧ j < ds.length ∧ ds.length ≤ lim then (ds[j.toNat]?).map fun d => (d, .list (ds.eraseIdx j.toNat)) else none
  | _, _ => none
def isLst : D → Bool
  | .list _ => true
  | _ => false
def slotLst (i : Nat) (ρ : Ev) : Bool := match ρ[i]? with
  | some (.ow d) => isLst d
  | _ => false
/-- a method of a list with one argument -/
def fMeth (fa fb : FE) (g : D → D → Option Rv) : FE := fun ρ => do
  let x ← fa ρ
  let a ← x.1.op
  let c0 ← a.get x.2
  if isLst c0 then do
    let y ← fb x.2
    let b ← y.1.op
    let c ← a.get y.2
    let d ← b.get y.2
    let r ← g c d
    pure (r, y.2)
  else .bad
def fPop (i : Nat) (fa : FE) : FE := fun ρ => if slotLst i ρ then do
  let x ← fa ρ
  let y ← popR x.1 x.2[i]?
  pure (.sh y.1, x.2.set i (.ow y.2))
  else .bad
/-! the tape of draws: a dict of texts -/
@[reducible] def Dtape (tp : Bool) (g c : List Int) (l t : Int) : D := Dins 0 [.list (g.map .int), .list (c.map .int), .int l, .int t, .bool tp]
def tapeOf : D → Option (Bool × List Int × List Int × Int × Int)
  | .dict [(.none, .int 0), (.none, .list [.list g, .list c, .int l, .int t, .bool tp])] => match intsOf g, intsOf c with
    | some g', some c' => some (tp, g', c', l, t)
    | _, _ => none
  | _ => none
def tapeAt (i : Nat) (ρ : Ev) : Option (Bool × List Int × List Int × Int × Int) := match ρ[i]? with
  | some (.ow d) => tapeOf d
  | _ => none
/-- the number left, the turn (f); tp: which of two texts of the tape -/
def fTint (i : Nat) (f tp : Bool) : FE := fun ρ => match tapeAt i ρ with
  | some (tp', _, _, l, t) => if f = true ∨ tp' = tp then .ok (.sh (.int (if f then t else l)), ρ) else .bad
  | none => .bad
def fTcells (i : Nat) : FE := fun ρ => match tapeAt i ρ with
  | some (_, _, c, _, _) => .ok (.sh (.list (c.map .int)), ρ)
  | none => .bad
def fTfull (i : Nat) (tp : Bool) : FE := fun ρ => match tapeAt i ρ with
  | some (tp', g, _, _, _) => if tp' = tp then .ok (bl (!g.isEmpty), ρ) else .bad
  | none => .bad
def fTpop (i : Nat) (tp : Bool) : FE := fun ρ => match tapeAt i ρ with
  | some (tp', x :: g, c, l, t) => if tp' = tp ∧ g.length < lim then .ok (.sh (.int x), ρ.set i (.ow (Dtape tp' g c l t))) else .bad
  | _ => .bad
/-! lists of expressions -/
def fNil : FA := fun ρ => .ok ([], ρ)
def fCons (fa : FE) (fr : FA) : FA := fun ρ => do
  let x ← fFz fa ρ
  let y ← fr x.2
  pure (x.1 :: y.1, y.2)
def seqOf : D → Option (List D)
  | .list xs => some xs
  | .tuple xs => some xs
  | _ => none
def fStar (fa : FE) (fr : FA) : FA := fun ρ => do
  let x ← fFz fa ρ
  let xs ← seqOf x.1
  let y ← fr x.2
  pure (xs ++ y.1, y.2)
def oNil : FR := fun ρ => .ok ([], ρ)
/-- an operand -/
def oCons (fa : FE) (fr : FR) : FR := fun ρ => do
  let x ← fa ρ
  let a ← x.1.op
  let y ← fr x.2
  pure (a :: y.1, y.2)
/-- an argument that stands still -/
def mCons (fa : FE) (fr : FR) : FR := fun ρ => do
  let x ← fFz fa ρ
  let y ← fr x.2
  pure (.sh x.1 :: y.1, y.2)
/-- an owned argument -/
def mOwn (fa : FE) (fr : FR) : FR := fun ρ => do
  let x ← fa ρ
  match x.1 with
  | .ow i => do
    let y ← fr x.2
    pure (.ow i :: y.1, y.2)
  | _ => .bad
/-! what is walked -/
def iSeq (fa : FE) : FA := fun ρ => do
  let x ← fFz fa ρ
  let ds ← itemsOf x.1
  pure (ds, x.2)
def iRng1 (fa : FE) : FA := fun ρ => do
  let x ← fa ρ
  match x.1 with
  | .sh (.int n) => if n ≤ lim ∧ -lim ≤ n then pure (rngD 0 n.toNat, x.2) else .bad
  | _ => .bad
def iRng2 (fa fb : FE) : FA := fun ρ => do
  let x ← fa ρ
  let y ← fb x.2
  match x.1, y.1 with
  | .sh (.int i), .sh (.int j) => if i.natAbs ≤ lim ∧ j.natAbs ≤ lim then pure (rngD i (j - i).toNat, y.2) else .bad
  | _, _ => .bad
def iEnum (fa : FE) : FA := fun ρ => do
  let x ← fFz fa ρ
  let xs ← seqOf x.1
  pure (enumD 0 xs, x.2)
def zipR : D → D → Option (List D)
  | .list ds, .list ds' => some (zipD ds ds')
  | .tuple ds, .tuple ds' => some (zipD ds ds')
  | _, _ => none
def iZip (fa fb : FE) : FA := fun ρ => do
  let x ← fFz fa ρ
  let y ← fFz fb x.2
  let ds ← zipR x.1 y.1
  pure (ds, y.2)
def itmR : D → Option (List D)
  | .dict kvs => if plainD kvs then some (kvs.map fun p => .tuple [p.1, p.2]) else none
  | _ => none
def iItems (fa : FE) : FA := fun ρ => do
  let x ← fFz fa ρ
  let ds ← itmR x.1
  pure (ds, x.2)
/-! comprehensions -/
def loopC {α : Type} (f : D → Ev → α → Res (Ev × α)) : List D → Ev → α → Res (Ev × α)
  | [], ρ, acc => .ok (ρ, acc)
  | d :: ds, ρ, acc => do
    let x ← f d ρ acc
    loopC f ds x.1 x.2
/-- behind a block: its own slots as they were -/
def backE (own : List Nat) (ρ0 ρ : Ev) : Ev := own.foldr (fun i ρ => match ρ0[i]? with
  | some v => ρ.set i v
  | none => ρ) ρ
def cYes : FC := fun ρ => .ok (true, ρ)
def noOw (ρ : Ev) (is : List Nat) : Bool := is.all fun i => match ρ[i]? with
  | some (.ow _) => false
  | some _ => true
  | none => false
def turnC (own : List Nat) (t : MT) (fc : FC) (fe : FE) : D → Ev → List D → Res (Ev × List D) := fun d ρ acc => do
  let ρ1 ← asgT t d ρ
  let b ← fc ρ1
  if b.1 then do
    let y ← fFz fe b.2
    if acc.length < lim then pure (wipeE own y.2, acc ++ [y.1]) else .bad
  else pure (wipeE own b.2, acc)
def fComp (own : List Nat) (t : MT) (fi : FA) (fc : FC) (fe : FE) : FE := fun ρ => do
  let x ← fi ρ
  if noOw x.2 own then do
    let y ← (loopC (turnC own t fc fe) x.1 (wipeE own x.2) []).noEx
    pure (.fr (.list y.2), backE own x.2 y.1)
  else .bad

def turnC2 (own own1 : List Nat) (t : MT) (fc : FC) (fi1 : FA) (t1 : MT) (fc1 : FC) (fe : FE) : D → Ev → List D → Res (Ev × List D) := fun d ρ acc => do
  let ρ1 ← asgT t d ρ
  let b ← fc ρ1
  if b.1 then do
    let x ← fi1 b.2
    let y ← loopC (turnC own1 t1 fc1 fe) x.1 (wipeE own1 x.2) acc
    pure (wipeE own y.1, y.2)
  else pure (wipeE own b.2, acc)
def fComp2 (own own1 : List Nat) (t : MT) (fi : FA) (fc : FC) (t1 : MT) (fi1 : FA) (fc1 : FC) (fe : FE) : FE := fun ρ => do
  let x ← fi ρ
  if noOw x.2 own then do
    let y ← (loopC (turnC2 own own1 t fc fi1 t1 fc1 fe) x.1 (wipeE own x.2) []).noEx
    pure (.fr (.list y.2), backE own x.2 y.1)
  else .bad
def turnK (own : List Nat) (t : MT) (fc : FC) (fk fv : FE) : D → Ev → List (D × D) → Res (Ev × List (D × D)) := fun d ρ acc => do
  let ρ1 ← asgT t d ρ
  let b ← fc ρ1
  if b.1 then do
    let k ← fFz fk b.2
    let v ← fFz fv k.2
    let key ← keyT k.1
    if acc.length < lim then pure (wipeE own v.2, dput acc k.1 key v.1) else .bad
  else pure (wipeE own b.2, acc)
def fDcomp (own : List Nat) (t : MT) (fi : FA) (fc : FC) (fk fv : FE) : FE := fun ρ => do
  let x ← fi ρ
  if noOw x.2 own then do
    let y ← (loopC (turnK own t fc fk fv) x.1 (wipeE own x.2) []).noEx
    if plainD y.2 then pure (.fr (.dict y.2), backE own x.2 y.1) else .bad
  else .bad
/-! statements -/
def sNext : FS := fun ρ => .ok (.nx ρ)
def sBad : FS := fun _ => .bad
def sBrk : FS := fun ρ => .ok (.bk ρ)
def sCnt : FS := fun ρ => .ok (.ct ρ)
def sRet (fa : FE) : FS := fun ρ => do
  let x ← fa ρ
  pure (.rt x.1 x.2)
def sSeq (f g : FS) : FS := fun ρ => do
  match ← f ρ with
  | .nx ρ' => g ρ'
  | .rt r ρ' => pure (.rt r ρ')
  | .bk ρ' => pure (.bk ρ')
  | .ct ρ' => pure (.ct ρ')
/-- a value goes to a slot: as an owned one, or let stand still -/
def keepR (own : Bool) (r : Rv) (ρ : Ev) : Option (SV × Ev) := match own, r with
  | true, .fr d => some (.ow d, ρ)
  | true, _ => none
  | false, r => (r.fz ρ).map fun x => (.sh x.1, x.2)
def sSet (i : Nat) (own : Bool) (fa : FE) : FS := fun ρ => do
  let x ← fa ρ
  let y ← keepR own x.1 x.2
  if i < y.2.length then pure (.nx (y.2.set i y.1)) else .bad
/-- a, b, .. = x, y, .. -/
def pNil : Ev → Res (List SV × Ev) := fun ρ => .ok ([], ρ)
def pCons (own : Bool) (fa : FE) (fr : Ev → Res (List SV × Ev)) : Ev → Res (List SV × Ev) := fun ρ => do
  let x ← fa ρ
  let y ← keepR own x.1 x.2
  let z ← fr y.2
  pure (y.1 :: z.1, z.2)
def setsV : List Nat → List SV → Ev → Option Ev
  | [], [], ρ => some ρ
  | i :: is, v :: vs, ρ => if i < ρ.length then setsV is vs (ρ.set i v) else none
  | _, _, _ => none
def sPar (is : List Nat) (fp : Ev → Res (List SV × Ev)) : FS := fun ρ => do
  let x ← fp ρ
  let ρ' ← setsV is x.1 x.2
  pure (.nx ρ')
def sUnp (is : List Nat) (fa : FE) : FS := fun ρ => do
  let x ← fFz fa ρ
  let ρ' ← asgT (.tp is) x.1 x.2
  pure (.nx ρ')
def augR (op : MOp) (x y : D) : Option Rv := match op, x, y with
  | .add, .int i, .int j => some (.sh (.int (i + j)))
  | .sub, .int i, .int j => some (.sh (.int (i - j)))
  | _, _, _ => none
def sAug (op : MOp) (i : Nat) (fa : FE) : FS := fun ρ => do
  match ρ[i]? with
  | some (.sh d) => do
    let x ← fa ρ
    let a ← x.1.op
    let y ← a.get x.2
    match ← augR op d y with
    | .sh r => pure (.nx (x.2.set i (.sh r)))
    | _ => .bad
  | _ => .bad
def sIf (fc : FC) (fa fb : FS) : FS := fun ρ => do
  let x ← fc ρ
  if x.1 then fa x.2 else fb x.2
def loopF (f : D → Ev → Res Out) : List D → Ev → Res Out
  | [], ρ => .ok (.nx ρ)
  | d :: ds, ρ => do
    match ← f d ρ with
    | .nx ρ' => loopF f ds ρ'
    | .ct ρ' => loopF f ds ρ'
    | .bk ρ' => pure (.nx ρ')
    | .rt r ρ' => pure (.rt r ρ')
def loopW (c : FC) (f : FS) : Nat → Ev → Res Out
  | 0, _ => .bad
  | n + 1, ρ => do
    let x ← c ρ
    if x.1 then do
      match ← f x.2 with
      | .nx ρ' => loopW c f n ρ'
      | .ct ρ' => loopW c f n ρ'
      | .bk ρ' => pure (.nx ρ')
      | .rt r ρ' => pure (.rt r ρ')
    else pure (.nx x.2)
def turnF (t : MT) (fb : FS) : D → Ev → Res Out := fun d ρ => do
  let ρ1 ← asgT t d ρ
  fb ρ1
def sFor (t : MT) (fi : FA) (fb : FS) : FS := fun ρ => do
  let x ← fi ρ
  loopF (turnF t fb) x.1 x.2
def sWhl (fc : FC) (fb : FS) : FS := fun ρ => loopW fc fb fuel ρ
def sExpr (fa : FE) : FS := fun ρ => do
  let x ← fa ρ
  pure (.nx x.2)
def slotOw (i : Nat) (ρ : Ev) : Option D := match ρ[i]? with
  | some (.ow d) => some d
  | _ => none
def appD (d x : D) : Option D := match d with
  | .list ds => if ds.length < lim then some (.list (ds ++ [x])) else none
  | _ => none
def extD (d x : D) : Option D := match d, x with
  | .list ds, .list es => if ds.length + es.length ≤ lim then some (.list (ds ++ es)) else none
  | _, _ => none
/-- what the slot i owns takes a still value in: a method of a list -/
def sApp (i : Nat) (fa : FE) (g : D → D → Option D) : FS := fun ρ => if slotLst i ρ then do
  let x ← fFz fa ρ
  let d ← slotOw i x.2
  let d' ← g d x.1
  pure (.nx (x.2.set i (.ow d')))
  else .bad
/-- .. a field -/
def sMut (i : Nat) (fa : FE) (g : D → D → Option D) : FS := fun ρ => do
  let x ← fFz fa ρ
  let d ← slotOw i x.2
  let d' ← g d x.1
  pure (.nx (x.2.set i (.ow d')))
def putD (d k v : D) : Option D := match d with
  | .dict kvs => (match keyT k with
    | some key => if kvs.length < lim ∧ plainD kvs ∧ plainD (dput kvs k key v) then some (.dict (dput kvs k key v)) else none
    | none => none)
  | .list ds => (match k with
    | .int i => (ixN ds.length i).map fun j => .list (ds.set j v)
    | _ => none)
  | _ => none
/-- slot[k] = v: the value first -/
def sPut (i : Nat) (fk fv : FE) : FS := fun ρ => do
  let _ ← slotOw i ρ
  let v ← fFz fv ρ
  let k ← fFz fk v.2
  let d ← slotOw i k.2
  let d' ← putD d k.1 v.1
  pure (.nx (k.2.set i (.ow d')))
/-- slot.f = v, the next field -/
def fldD (c j : Nat) (d x : D) : Option D := match insOf d with
  | some (c', fs) => if c' = c ∧ fs.length = j ∧ j < nf c ∧ c ≠ 0 ∧ c ≠ 99 then some (Dins c (fs ++ [x])) else none
  | none => none
def sTset (i : Nat) (f tp : Bool) (fa : FE) : FS := fun ρ => match tapeAt i ρ with
  | some _ => do
    let x ← fa ρ
    match x.1, tapeAt i x.2 with
    | .sh (.int n), some (tp', g, c, l, t) => if f = true ∨ tp' = tp then pure (.nx (x.2.set i (.ow (if f then Dtape tp' g c l n else Dtape tp' g c n t)))) else .bad
    | _, _ => .bad
  | none => .bad
/-- a new tape: its great numbers what the slot i owns, its cells e -/
def sRtape (i : Nat) (tp : Bool) (fa : FE) : FS := fun ρ => match slotOw i ρ with
  | some (.list g) => do
    let x ← fFz fa ρ
    match slotOw i x.2, x.1 with
    | some (.list g'), .list cs => (match intsOf g', intsOf cs with
      | some gs, some c => pure (.rt (.ow i) (x.2.set i (.ow (Dtape tp gs c 0 0))))
      | _, _ => .bad)
    | _, _ => .bad
  | _ => .bad
/-! a def -/
def slotsOf (mp : List Nat) (n : Nat) : Nat → List D → Ev
  | _, [] => []
  | j, d :: ds => (if j ∈ mp then .ow d else .sh d) :: slotsOf mp n (j + 1) ds
def start0 (mp : List Nat) (n : Nat) (ds : List D) : Ev := slotsOf mp n 0 ds ++ List.replicate (n - ds.length) .un
def ownsOf : List Nat → Ev → Option (List D)
  | [], _ => some []
  | i :: is, ρ => match slotOw i ρ, ownsOf is ρ with
    | some d, some ds => some (d :: ds)
    | _, _ => none
/-- what a def hands back -/
def retR (mp : List Nat) (fresh : Bool) (r : Rv) (ρ : Ev) : Option (D × Ev) := match fresh, r with
  | false, r => r.fz ρ
  | true, .fr d => some (d, ρ)
  | true, .ow i => if i ∈ mp then none else (slotOw i ρ).map fun d => (d, ρ)
  | true, _ => none
def runB (mp : List Nat) (fresh : Bool) (n : Nat) (ps : Nat) (fb : FS) (ds : List D) : Res (D × List D) := do
  if ds.length = ps ∧ ps ≤ n then do
    match ← fb (start0 mp n ds) with
    | .nx ρ => if fresh then .bad else do
      let ms ← ownsOf mp ρ
      pure (.none, ms)
    | .rt r ρ => do
      let x ← retR mp fresh r ρ
      let ms ← ownsOf mp x.2
      pure (x.1, ms)
    | _ => .bad
  else .bad

/-! ### the meaning of the syntax -/
mutual
def ev (Φ : Fns) : ME → FE
  | .var i => fVar i
  | .int n => fC (.int n)
  | .bl b => fC (.bool b)
  | .non => fC .none
  | .bin op a b => fBin (ev Φ a) (ev Φ b) (binD op)
  | .neg a => fUn (ev Φ a) negD
  | .cmp op a b => fBin (ev Φ a) (ev Φ b) (cmpR op)
  | .chain op op' a b c => fChain (ev Φ a) (ev Φ b) (ev Φ c) op op'
  | .and a b => fAnd (ev Φ a) (ev Φ b)
  | .or a b => fOr (ev Φ a) (ev Φ b)
  | .not a => fNot (ev Φ a)
  | .ite c a b => fIte (ev Φ c) (ev Φ a) (ev Φ b)
  | .tup es => fTup (evA Φ es)
  | .lst es => fLst (evA Φ es)
  | .dic0 => fDic0
  | .dic1 k v => fDic1 (ev Φ k) (ev Φ v)
  | .call f es dfl => fCall (Φ f) (evM Φ (Φ f).mp 0 es) dfl
  | .new c f es => fNew (Φ f) c (evA Φ es)
  | .bi b es => fBi b (evO Φ es)
  | .biv b e => fUn (ev Φ e) (bivR b)
  | .lrng e => lstRng (ev Φ e)
  | .ist e ts => fUn (ev Φ e) (istR ts)
  | .ix a i => fBin (ev Φ a) (ev Φ i) ixR
  | .slc a lo hi => fSlc (ev Φ a) (evP Φ lo) (evP Φ hi)
  | .fld e c j => fUn (ev Φ e) (fldR c j)
  | .prop e c f => fProp (Φ f) c (ev Φ e)
  | .cnt a e => fMeth (ev Φ a) (ev Φ e) cntR
  | .pop i e => fPop i (ev Φ e)
  | .tint i f tp => fTint i f tp
  | .tcells i => fTcells i
  | .tfull i tp => fTfull i tp
  | .tpop i tp => fTpop i tp
  | .comp own t it cs e => fComp own t (evI Φ it) (evC Φ cs) (ev Φ e)
  | .comp2 own own1 t it cs t1 it1 cs1 e => fComp2 own own1 t (evI Φ it) (evC Φ cs) t1 (evI Φ it1) (evC Φ cs1) (ev Φ e)
  | .dcomp own t it cs k v => fDcomp own t (evI Φ it) (evC Φ cs) (ev Φ k) (ev Φ v)
def evA (Φ : Fns) : MA → FA
  | .nil => fNil
  | .cons e r => fCons (ev Φ e) (evA Φ r)
  | .star e r => fStar (ev Φ e) (evA Φ r)
def evO (Φ : Fns) : MA → FR
  | .nil => oNil
  | .cons e r => oCons (ev Φ e) (evO Φ r)
  | .star _ _ => fun _ => .bad
def evC (Φ : Fns) : MA → FC
  | .nil => cYes
  | .cons e .nil => fTest (ev Φ e)
  | _ => fun _ => .bad
def evP (Φ : Fns) : MA → FO
  | .nil => fNoPart
  | .cons e .nil => fPart (ev Φ e)
  | _ => fun _ => .bad
def evI (Φ : Fns) : MI → FA
  | .seq e => iSeq (ev Φ e)
  | .rng1 e => iRng1 (ev Φ e)
  | .rng2 a b => iRng2 (ev Φ a) (ev Φ b)
  | .enum e => iEnum (ev Φ e)
  | .zip a b => iZip (ev Φ a) (ev Φ b)
  | .items e => iItems (ev Φ e)
  | .cst es => evA Φ es
def evM (Φ : Fns) (mp : List Nat) : Nat → MA → FR
  | _, .nil => oNil
  | j, .cons e r => if j ∈ mp then mOwn (ev Φ e) (evM Φ mp (j + 1) r) else mCons (ev Φ e) (evM Φ mp (j + 1) r)
  | _, .star _ _ => fun _ => .bad
end
def evPar (Φ : Fns) : List Bool → MA → Ev → Res (List SV × Ev)
  | [], .nil => pNil
  | b :: bs, .cons e r => pCons b (ev Φ e) (evPar Φ bs r)
  | _, _ => fun _ => .bad
mutual
def exS (Φ : Fns) : MS → FS
  | .pass => sNext
  | .ret e => sRet (ev Φ e)
  | .retn => sRet (fC .none)
  | .set i own e => sSet i own (ev Φ e)
  | .par is bs es => sPar is (evPar Φ bs es)
  | .unp is e => sUnp is (ev Φ e)
  | .aug op i e => sAug op i (ev Φ e)
  | .ite c a b => sIf (fTest (ev Φ c)) (exB Φ a) (exB Φ b)
  | .for_ t it b => sFor t (evI Φ it) (exB Φ b)
  | .whl c b => sWhl (fTest (ev Φ c)) (exB Φ b)
  | .expr e => sExpr (ev Φ e)
  | .app i e => sApp i (ev Φ e) appD
  | .ext i e => sApp i (ev Φ e) extD
  | .put i k v => sPut i (ev Φ k) (ev Φ v)
  | .sfld i c j e => sMut i (ev Φ e) (fldD c j)
  | .tset i f tp e => sTset i f tp (ev Φ e)
  | .rtape i tp e => sRtape i tp (ev Φ e)
  | .brk => sBrk
  | .cnt => sCnt
  | .stuck => sBad
def exB (Φ : Fns) : MB → FS
  | .nil => sNext
  | .cons s .nil => exS Φ s
  | .cons s r => sSeq (exS Φ s) (exB Φ r)
end
end VL

set_option Elab.async false
set_option linter.all false
set_option maxRecDepth 100000
/-! V2: how the data of V1 lie in the abstract heap. -/
namespace VL
open PySem PySem.Spec PySem.W PyProof.Rows L2

/-- what does not change through the law: the program, the world, the written part, the classes: by number the address and the fields' names -/
structure Pm where
  P : Program
  w : World
  K : Frag
  cls : Nat → Option (Addr × List Str)

/-- a dict at a whose keys are tuples: its entries -/
def dO (P : Program) (w : World) (a : Addr) (xs : List (NestedKey × Addr × Value)) (ep : Nat) : HO := .ext fun h =>
  (a == sysModules) = false ∧ xs.length ≤ sizeLine ∧ (xs.map (·.1)).Nodup ∧ ∃ o es, h.get? a = some o ∧ o.ExactDict ∧ o.data = .dict es ep ∧ es.toList = xs.map (entryOfKey (nestedKind P w))

mutual
/-- in the still heap F the value v is the datum d -/
inductive At (p : Pm) (F : Hp) : D → V → Prop
  | non : At p F .none .non
  | bl (b : Bool) : At p F (.bool b) (.bl b)
  | int (i : Int) : At p F (.int i) (.int i)
  | str (x : Str) : At p F (.str x) (.str x)
  | lst {a : Addr} {ds : List D} {vs : List V} : F a = some (.lst vs) → AtL p F ds vs → At p F (.list ds) (.ref a)
  | scr {a : Addr} {ns : List Int} : SqL p.K F a (ns.map V.int) → At p F (Dscr ns) (.ref a)
  | tup {a : Addr} {ds : List D} {vs : List V} : SqT p.K F a vs → AtL p F ds vs → At p F (.tuple ds) (.ref a)
  | dct {a : Addr} {kvs : List (D × D)} {xs : List (NestedKey × Addr × Value)} {ep : Nat} : F a = some (dO p.P p.w a xs ep) → plainD kvs = true → AtK p F kvs xs → At p F (.dict kvs) (.ref a)
  | ins {a C dx : Addr} {c : Nat} {ns : List Str} {fs : List (Str × V)} {ds : List D} : F a = some (.ins C dx fs) → p.cls c = some (C, ns) → c ≠ 99 → fs.map (·.1) = ns → AtL p F ds (fs.map (·.2)) → At p F (Dins c ds) (.ref a)
inductive AtL (p : Pm) (F : Hp) : List D → List V → Prop
  | nil : AtL p F [] []
  | cons {d : D} {ds : List D} {v : V} {vs : List V} : At p F d v → AtL p F ds vs → AtL p F (d :: ds) (v :: vs)
inductive AtK (p : Pm) (F : Hp) : List (D × D) → List (NestedKey × Addr × Value) → Prop
  | nil : AtK p F [] []
  | cons {kd vd : D} {kvs : List (D × D)} {k : NestedKey} {b : Addr} {u : Value} {v : V} {xs : List (NestedKey × Addr × Value)} :
      keyOf kd = some k → k.depth ≤ 8 → At p F kd (.ref b) → RelV v u → At p F vd v → AtK p F kvs xs → AtK p F ((kd, vd) :: kvs) ((k, b, u) :: xs)
end

/-- all of F stands in G -/
def Same (F G : Hp) : Prop := ∀ a o, F a = some o → G a = some o
theorem Same.refl {F : Hp} : Same F F := fun _ _ e => e
theorem Same.trans {F G H : Hp} (a : Same F G) (b : Same G H) : Same F H := fun c o e => b c o (a c o e)
theorem Same.rd {F G : Hp} (s : Same F G) {a : Addr} {u : HO} (r : Rd F a u) : Rd G a u := by
  rcases r with r | ⟨o, r⟩
  · exact .inl (s _ _ r)
  · exact .inr ⟨o, s _ _ r⟩
theorem Same.sqL {K : Frag} {F G : Hp} (s : Same F G) {a : Addr} {xs : List V} (r : SqL K F a xs) : SqL K G a xs := by
  rcases r with r | r
  · exact .inl (s.rd r)
  · exact .inr r
theorem Same.sqT {K : Frag} {F G : Hp} (s : Same F G) {a : Addr} {xs : List V} (r : SqT K F a xs) : SqT K G a xs := by
  rcases r with r | r
  · exact .inl (s.rd r)
  · exact .inr r
theorem same_upd {F : Hp} {a : Addr} {o : HO} (n : F a = none) : Same F (upd F a o) := fun b u e => by
  rw [upd_ne (ne_of_none e n)]
  exact e

section
variable {p : Pm} {F G : Hp}
mutual
theorem At.mono (s : Same F G) : ∀ {d : D} {v : V}, At p F d v → At p G d v
  | _, _, .non => .non
  | _, _, .bl b => .bl b
  | _, _, .int i => .int i
  | _, _, .str x => .str x
  | _, _, .lst h l => .lst (s _ _ h) (AtL.mono s l)
  | _, _, .scr h => .scr (s.sqL h)
  | _, _, .tup h l => .tup (s.sqT h) (AtL.mono s l)
  | _, _, .dct h n k => .dct (s _ _ h) n (AtK.mono s k)
  | _, _, .ins h c z n l => .ins (s _ _ h) c z n (AtL.mono s l)
theorem AtL.mono (s : Same F G) : ∀ {ds : List D} {vs : List V}, AtL p F ds vs → AtL p G ds vs
  | _, _, .nil => .nil
  | _, _, .cons h t => .cons (At.mono s h) (AtL.mono s t)
theorem AtK.mono (s : Same F G) : ∀ {kvs : List (D × D)} {xs : List (NestedKey × Addr × Value)}, AtK p F kvs xs → AtK p G kvs xs
  | _, _, .nil => .nil
  | _, _, .cons k n h r v t => .cons k n (At.mono s h) r (At.mono s v) (AtK.mono s t)
end
theorem AtL.length : ∀ {ds : List D} {vs : List V}, AtL p F ds vs → ds.length = vs.length
  | _, _, .nil => rfl
  | _, _, .cons _ t => by simp [AtL.length t]
theorem AtL.append : ∀ {ds es : List D} {vs ws : List V}, AtL p F ds vs → AtL p F es ws → AtL p F (ds ++ es) (vs ++ ws)
  | _, _, _, _, .nil, h => h
  | _, _, _, _, .cons a t, h => .cons a (AtL.append t h)
theorem AtL.get : ∀ {ds : List D} {vs : List V} {i : Nat} {d : D}, AtL p F ds vs → ds[i]? = some d → ∃ v, vs[i]? = some v ∧ At p F d v
  | _, _, _, _, .nil, e => by simp at e
  | _, _, 0, d, .cons a t, e => by
    simp at e
    subst e
    exact ⟨_, rfl, a⟩
  | _, _, i + 1, d, .cons a t, e => by
    obtain ⟨v, h1, h2⟩ := AtL.get (i := i) (d := d) t (by simpa using e)
    exact ⟨v, by simpa using h1, h2⟩
theorem AtL.get' : ∀ {ds : List D} {vs : List V} {i : Nat} {v : V}, AtL p F ds vs → vs[i]? = some v → ∃ d, ds[i]? = some d ∧ At p F d v
  | _, _, _, _, .nil, e => by simp at e
  | _, _, 0, v, .cons a t, e => by
    simp at e
    subst e
    exact ⟨_, rfl, a⟩
  | _, _, i + 1, v, .cons a t, e => by
    obtain ⟨d, h1, h2⟩ := AtL.get' (i := i) (v := v) t (by simpa using e)
    exact ⟨d, by simpa using h1, h2⟩
theorem AtL.take : ∀ {ds : List D} {vs : List V} (n : Nat), AtL p F ds vs → AtL p F (ds.take n) (vs.take n)
  | _, _, 0, _ => .nil
  | _, _, _ + 1, .nil => .nil
  | _, _, n + 1, .cons r t => .cons r (AtL.take n t)
theorem AtL.drop : ∀ {ds : List D} {vs : List V} (n : Nat), AtL p F ds vs → AtL p F (ds.drop n) (vs.drop n)
  | _, _, 0, r => r
  | _, _, _ + 1, .nil => .nil
  | _, _, n + 1, .cons _ t => AtL.drop n t
theorem AtL.eraseIdx : ∀ {ds : List D} {vs : List V} (n : Nat), AtL p F ds vs → AtL p F (ds.eraseIdx n) (vs.eraseIdx n)
  | _, _, _, .nil => .nil
  | _, _, 0, .cons _ t => t
  | _, _, n + 1, .cons r t => .cons r (AtL.eraseIdx n t)
theorem AtL.set : ∀ {ds : List D} {vs : List V} {d : D} {v : V} (n : Nat), AtL p F ds vs → At p F d v → AtL p F (ds.set n d) (vs.set n v)
  | _, _, _, _, _, .nil, _ => .nil
  | _, _, _, _, 0, .cons _ t, h => .cons h t
  | _, _, _, _, n + 1, .cons r t, h => .cons r (AtL.set n t h)
theorem AtL.ints : ∀ (ns : List Int), AtL p F (ns.map .int) (ns.map V.int)
  | [] => .nil
  | n :: ns => .cons (.int n) (AtL.ints ns)
theorem AtK.length : ∀ {kvs : List (D × D)} {xs : List (NestedKey × Addr × Value)}, AtK p F kvs xs → kvs.length = xs.length
  | _, _, .nil => rfl
  | _, _, .cons _ _ _ _ _ t => by simp [AtK.length t]
/-- the keys of a dict -/
theorem AtK.keys : ∀ {kvs : List (D × D)} {xs : List (NestedKey × Addr × Value)}, AtK p F kvs xs → AtL p F (kvs.map (·.1)) (xs.map fun x => .ref x.2.1)
  | _, _, .nil => .nil
  | _, _, .cons _ _ h _ _ t => .cons h (AtK.keys t)
theorem AtK.vals : ∀ {kvs : List (D × D)} {xs : List (NestedKey × Addr × Value)}, AtK p F kvs xs → ∃ vs, AtL p F (kvs.map (·.2)) vs ∧ Vals vs (xs.map (·.2.2))
  | _, _, .nil => ⟨[], .nil, .nil⟩
  | _, _, .cons _ _ _ r h t => by
    obtain ⟨vs, h1, h2⟩ := AtK.vals t
    exact ⟨_ :: vs, .cons h h1, .cons r h2⟩
/-- what stands at a key -/
theorem AtK.find (k : NestedKey) : ∀ {kvs : List (D × D)} {xs : List (NestedKey × Addr × Value)}, AtK p F kvs xs →
    (dfind kvs k = none ∧ atKey xs k = none) ∨ ∃ d b u v, dfind kvs k = some d ∧ atKey xs k = some (b, u) ∧ RelV v u ∧ At p F d v
  | _, _, .nil => .inl ⟨rfl, rfl⟩
  | _, _, .cons (kd := kd) (vd := vd) (kvs := kvs) (k := k') (b := b) (u := u) (v := v) (xs := xs) e _ _ r h t => by
    by_cases q : k' = k
    · subst q
      refine .inr ⟨vd, b, u, v, ?_, ?_, r, h⟩
      · simp [dfind, keyIs, e]
      · simp [atKey]
    · rcases AtK.find k t with ⟨h1, h2⟩ | ⟨d, b', u', v', h1, h2, h3, h4⟩
      · refine .inl ⟨?_, ?_⟩
        · simpa [dfind, List.find?_cons, keyIs, e, q] using h1
        · simpa [atKey, List.find?_cons, q] using h2
      · refine .inr ⟨d, b', u', v', ?_, ?_, h3, h4⟩
        · simpa [dfind, List.find?_cons, keyIs, e, q] using h1
        · simpa [atKey, List.find?_cons, q] using h2
theorem any_find {α : Type} (f : α → Bool) : ∀ l : List α, l.any f = (l.find? f).isSome
  | [] => rfl
  | a :: l => by
    rw [List.any_cons, List.find?_cons]
    cases f a with
    | true => rfl
    | false => simpa using any_find f l
theorem AtK.any (k : NestedKey) {kvs : List (D × D)} {xs : List (NestedKey × Addr × Value)} (h : AtK p F kvs xs) : kvs.any (keyIs k) = (atKey xs k).isSome := by
  have e : kvs.any (keyIs k) = (dfind kvs k).isSome := by
    unfold dfind
    rw [Option.isSome_map]
    exact any_find _ kvs
  rw [e]
  rcases AtK.find k h with ⟨h1, h2⟩ | ⟨d, b, u, v, h1, h2, _, _⟩
  · rw [h1, h2]; rfl
  · rw [h1, h2]; rfl
theorem AtK.map_put {k : NestedKey} {vd : D} {u : Value} {v : V} (r : RelV v u) (hv : At p F vd v) : ∀ {kvs : List (D × D)} {xs : List (NestedKey × Addr × Value)}, AtK p F kvs xs →
    AtK p F (kvs.map fun q => if keyIs k q then (q.1, vd) else q) (xs.map (putAt k u))
  | _, _, .nil => .nil
  | _, _, .cons (kd := kd) (vd := vd0) (k := k') (b := b) (u := u0) e n h r0 h0 t => by
    by_cases q : k' = k
    · subst q
      simp only [List.map_cons, keyIs, e, putAt, decide_true, if_true]
      exact .cons e n h r hv (AtK.map_put r hv t)
    · simp only [List.map_cons, keyIs, e, putAt, q, decide_false, if_false, Bool.false_eq_true]
      exact .cons e n h r0 h0 (AtK.map_put r hv t)
theorem AtK.snoc : ∀ {kvs : List (D × D)} {xs : List (NestedKey × Addr × Value)} {kd vd : D} {k : NestedKey} {b : Addr} {u : Value} {v : V}, AtK p F kvs xs → keyOf kd = some k → k.depth ≤ 8 → At p F kd (.ref b) → RelV v u → At p F vd v →
    AtK p F (kvs ++ [(kd, vd)]) (xs ++ [(k, b, u)])
  | _, _, _, _, _, _, _, _, .nil, e, n, h, r, hv => .cons e n h r hv .nil
  | _, _, _, _, _, _, _, _, .cons e0 n0 h0 r0 v0 t, e, n, h, r, hv => .cons e0 n0 h0 r0 v0 (AtK.snoc t e n h r hv)
theorem AtK.put {kvs : List (D × D)} {xs : List (NestedKey × Addr × Value)} {kd vd : D} {k : NestedKey} {b : Addr} {u : Value} {v : V} (t : AtK p F kvs xs) (e : keyOf kd = some k) (n : k.depth ≤ 8) (h : At p F kd (.ref b)) (r : RelV v u) (hv : At p F vd v) :
    AtK p F (dput kvs kd k vd) (storedH xs k b u) := by
  have ha := t.any k
  unfold dput storedH
  rw [ha]
  by_cases q : (atKey xs k).isSome = true
  · rw [if_pos q, if_pos q]
    exact AtK.map_put r hv t
  · rw [if_neg q, if_neg q]
    exact t.snoc e n h r hv

/-! ### what is owned -/
/-- the tape's dict -/
def tapeL (tp : Bool) (b l : Addr) (left turn : Int) : List (Key × V) := if tp then [(.inr "large", .ref b), (.inr "rest", .int left), (.inr "cells", .ref l), (.inr "turn", .int turn)] else [(.inr "great", .ref b), (.inr "cells", .ref l), (.inr "left", .int left), (.inr "turn", .int turn)]
/-- at v stands, in H, an object of this frame's own with the datum d, its parts still in F; fp: its addresses -/
inductive Own (p : Pm) (F H : Hp) : D → V → List Addr → Prop
  | lst {a : Addr} {ds : List D} {vs : List V} : H a = some (.lst vs) → AtL p F ds vs → Own p F H (.list ds) (.ref a) [a]
  | dct {a : Addr} {kvs : List (D × D)} {xs : List (NestedKey × Addr × Value)} {ep : Nat} : H a = some (dO p.P p.w a xs ep) → plainD kvs = true → AtK p F kvs xs → Own p F H (.dict kvs) (.ref a) [a]
  | ins {a C dx : Addr} {c : Nat} {ns : List Str} {fs : List (Str × V)} {ds : List D} : c ≠ 0 ∧ c ≠ 99 → H a = some (.ins C dx fs) → p.cls c = some (C, ns) → fs.map (·.1) = ns.take ds.length → AtL p F ds (fs.map (·.2)) → Own p F H (Dins c ds) (.ref a) [a]
  | tape {a b : Addr} {l : Addr} {tp : Bool} {great cells : List Int} {left turn : Int} : a ≠ b → H a = some (.dK (tapeL tp b l left turn)) → H b = some (.lst (great.map V.int)) → F l = some (.lst (cells.map V.int)) →
      Own p F H (Dtape tp great cells left turn) (.ref a) [a, b]
end
end VL

set_option Elab.async false
set_option linter.all false
set_option maxRecDepth 100000
/-! V3: a frame's state (Rep), what a step may change (Ext), an expression's meaning as a reading (tE). -/
namespace VL
open PySem PySem.Spec PySem.W PyProof.Rows L2

def Wn (ρ : Ev) (fp : Nat → List Addr) (a : Addr) : Prop := ∃ i d, ρ[i]? = some (.ow d) ∧ a ∈ fp i
structure Pr where
  prm : List (Nat × V × List Addr)
  ex : D → Hp → Hp → Prop

/-- the frame's slots: ρ tells what σ holds, over the still heap F within H; fp: the addresses of what a slot owns; P: the owned parameters -/
structure Rep (p : Pm) (P : Pr) (F H : Hp) (ρ : Ev) (σ : L2.St) (fp : Nat → List Addr) : Prop where
  sub : Same F H
  len : ρ.length = σ.length
  sh : ∀ (i : Nat) (d : D), ρ[i]? = some (.sh d) → ∃ v, σ[i]? = some (some v) ∧ At p F d v
  ow : ∀ (i : Nat) (d : D), ρ[i]? = some (.ow d) → ∃ v, σ[i]? = some (some v) ∧ Own p F H d v (fp i) ∧ ∀ a ∈ fp i, F a = none
  dj : ∀ (i j : Nat) (d e : D), i ≠ j → ρ[i]? = some (.ow d) → ρ[j]? = some (.ow e) → ∀ a ∈ fp i, a ∉ fp j
  prm : ∀ q ∈ P.prm, ∀ d, ρ[q.1]? = some (.ow d) → σ[q.1]? = some (some q.2.1) ∧ fp q.1 = q.2.2

/-- from (F, H) to (F', H'): the still heap grows by new objects and by what was owned (W); all else stays -/
structure Ext (F H : Hp) (W : Addr → Prop) (F' H' : Hp) (W' : Addr → Prop) : Prop where
  same : Same F F'
  keep : ∀ a o, H a = some o → ¬ W a → H' a = some o
  there : ∀ a, H a ≠ none → H' a ≠ none
  newF : ∀ a, F' a ≠ none → F a ≠ none ∨ H a = none ∨ W a
  newW : ∀ a, W' a → W a ∨ H a = none

section
variable {F H F1 H1 F2 H2 : Hp} {W W1 W2 : Addr → Prop}
theorem Ext.refl : Ext F H W F H W := ⟨Same.refl, fun _ _ e _ => e, fun _ h => h, fun _ h => .inl h, fun _ h => .inl h⟩
theorem Ext.back (a : Ext F H W F1 H1 W1) {b : Addr} (h : H1 b = none) : H b = none := by
  cases e : H b with
  | none => rfl
  | some o => exact absurd h (a.there b (by rw [e]; simp))
theorem Ext.trans (a : Ext F H W F1 H1 W1) (b : Ext F1 H1 W1 F2 H2 W2) : Ext F H W F2 H2 W2 where
  same := a.same.trans b.same
  keep := fun c o e n => b.keep c o (a.keep c o e n) fun w => by
    rcases a.newW c w with w | w
    · exact n w
    · rw [w] at e; cases e
  there := fun c h => b.there c (a.there c h)
  newF := fun c h => by
    rcases b.newF c h with h | h | h
    · exact a.newF c h
    · exact .inr (.inl (a.back h))
    · rcases a.newW c h with h | h
      · exact .inr (.inr h)
      · exact .inr (.inl h)
  newW := fun c h => by
    rcases b.newW c h with h | h
    · exact a.newW c h
    · exact .inr (a.back h)
theorem Ext.weakW (a : Ext F H W F1 H1 W1) (h : ∀ c, W2 c → W1 c) : Ext F H W F1 H1 W2 := ⟨a.same, a.keep, a.there, a.newF, fun c w => a.newW c (h c w)⟩
end

/-- only new objects -/
structure Nw (F H F' H' : Hp) : Prop where
  f : Same F F'
  h : Same H H'
  new : ∀ a, F' a ≠ none → F a ≠ none ∨ H a = none
theorem Nw.refl {F H : Hp} : Nw F H F H := ⟨Same.refl, Same.refl, fun _ h => .inl h⟩
theorem Nw.trans {F H F1 H1 F2 H2 : Hp} (a : Nw F H F1 H1) (b : Nw F1 H1 F2 H2) : Nw F H F2 H2 := ⟨a.f.trans b.f, a.h.trans b.h, fun c h => by
  rcases b.new c h with h | h
  · exact a.new c h
  · refine .inr ?_
    cases e : H c with
    | none => rfl
    | some o => rw [a.h c o e] at h; cases h⟩
theorem Nw.push {F H : Hp} {a : Addr} {o : HO} (n : H a = none) (s : Same F H) : Nw F H (upd F a o) (upd H a o) := by
  have nF : F a = none := by
    cases e : F a with
    | none => rfl
    | some u => rw [s a u e] at n; cases n
  refine ⟨same_upd nF, same_upd n, fun c h => ?_⟩
  by_cases q : c = a
  · subst q; exact .inr n
  · rw [upd_ne q] at h; exact .inl h
theorem Nw.pushH {F H : Hp} {a : Addr} {o : HO} (n : H a = none) : Nw F H F (upd H a o) := ⟨Same.refl, same_upd n, fun _ h => .inl h⟩
theorem Nw.ext {F H F' H' : Hp} {W : Addr → Prop} (n : Nw F H F' H') : Ext F H W F' H' W where
  same := n.f
  keep := fun a o e _ => n.h a o e
  there := fun a h e => by
    cases q : H a with
    | none => exact h q
    | some o => rw [n.h a o q] at e; cases e
  newF := fun a h => by
    rcases n.new a h with h | h
    · exact .inl h
    · exact .inr (.inl h)
  newW := fun _ h => .inl h

theorem Same.none {F H : Hp} (s : Same F H) {a : Addr} (n : H a = none) : F a = none := by
  cases e : F a with
  | none => rfl
  | some u => rw [s a u e] at n; cases n
theorem same_push {F H : Hp} (s : Same F H) {a : Addr} {o : HO} : Same (upd F a o) (upd H a o) := fun b u e => by
  by_cases q : b = a
  · subst q; rw [upd_same] at e ⊢; exact e
  · rw [upd_ne q] at e ⊢; exact s b u e

section
variable {p : Pm} {P : Pr} {F H F' H' : Hp} {ρ : Ev} {σ : L2.St} {fp : Nat → List Addr}
/-- what is owned stays so while its own objects stay -/
theorem Own.keep {d : D} {v : V} {q : List Addr} (o : Own p F H d v q) (s : Same F F') (k : ∀ a ∈ q, H' a = H a) : Own p F' H' d v q := by
  cases o with
  | lst h l => exact .lst ((k _ (by simp)).trans h) (l.mono s)
  | dct h n l => exact .dct ((k _ (by simp)).trans h) n (l.mono s)
  | ins z h c n l => exact .ins z ((k _ (by simp)).trans h) c n (l.mono s)
  | tape ne h h2 l => exact .tape ne ((k _ (by simp)).trans h) ((k _ (by simp)).trans h2) (s _ _ l)
theorem Own.there {d : D} {v : V} {q : List Addr} (o : Own p F H d v q) : ∀ a ∈ q, ∃ u, H a = some u := by
  cases o with
  | lst h l => intro a ha; simp at ha; subst ha; exact ⟨_, h⟩
  | dct h n l => intro a ha; simp at ha; subst ha; exact ⟨_, h⟩
  | ins z h c n l => intro a ha; simp at ha; subst ha; exact ⟨_, h⟩
  | tape ne h h2 l =>
    intro a ha
    simp at ha
    rcases ha with rfl | rfl
    · exact ⟨_, h⟩
    · exact ⟨_, h2⟩
theorem Rep.wn (R : Rep p P F H ρ σ fp) {a : Addr} (w : Wn ρ fp a) : F a = none ∧ ∃ u, H a = some u := by
  obtain ⟨i, d, e, ha⟩ := w
  obtain ⟨v, _, o, f⟩ := R.ow i d e
  exact ⟨f a ha, o.there a ha⟩
theorem Rep.new (R : Rep p P F H ρ σ fp) (n : Nw F H F' H') (s : Same F' H') : Rep p P F' H' ρ σ fp where
  sub := s
  len := R.len
  sh := fun i d e => by
    obtain ⟨v, h1, h2⟩ := R.sh i d e
    exact ⟨v, h1, h2.mono n.f⟩
  ow := fun i d e => by
    obtain ⟨v, h1, h2, h3⟩ := R.ow i d e
    refine ⟨v, h1, h2.keep n.f fun a ha => ?_, fun a ha => ?_⟩
    · obtain ⟨u, hu⟩ := h2.there a ha
      rw [hu, n.h a u hu]
    · cases q : F' a with
      | none => rfl
      | some u =>
        rcases n.new a (by rw [q]; simp) with z | z
        · exact absurd (h3 a ha) z
        · obtain ⟨u', hu⟩ := h2.there a ha
          rw [hu] at z; cases z
  dj := R.dj
  prm := R.prm
end

/-- a value handed back: it stands still; a new object; a slot's own -/
def Val (p : Pm) (H0 F H : Hp) (ρ : Ev) (σ : L2.St) (fp : Nat → List Addr) : Rv → V → Prop
  | .sh d, v => At p F d v
  | .fr d, v => ∃ q, Own p F H d v q ∧ ∀ a ∈ q, F a = none ∧ H0 a = none ∧ ¬ Wn ρ fp a
  | .ow i, v => σ[i]? = some (some v)

/-- an exception may leave from here -/
def Exc (P : Pr) (F H : Hp) (W : Addr → Prop) (d : D) : Prop := ∀ F' H' W', Ext F H W F' H' W' → Same F' H' → P.ex d F' H'
theorem Exc.ext {P : Pr} {F H F1 H1 : Hp} {W W1 : Addr → Prop} {d : D} (h : Exc P F H W d) (E : Ext F H W F1 H1 W1) : Exc P F1 H1 W1 d := fun F' H' W' E' s => h F' H' W' (E.trans E') s

/-- an expression: f tells what it hands back -/
def tE (p : Pm) (P : Pr) (f : FE) : TE := fun σ H Q => ∃ F ρ fp, Rep p P F H ρ σ fp ∧ wpR (Exc P F H (Wn ρ fp)) (fun x =>
  ∀ F' H' fp' v, Ext F H (Wn ρ fp) F' H' (Wn x.2 fp') → Rep p P F' H' x.2 σ fp' → Val p H F' H' x.2 σ fp' x.1 v → Q v H') (f ρ)
/-- a test -/
def tT (p : Pm) (P : Pr) (f : FC) : TT := fun σ H Q => ∃ F ρ fp, Rep p P F H ρ σ fp ∧ wpR (Exc P F H (Wn ρ fp)) (fun x =>
  ∀ F' H' fp', Ext F H (Wn ρ fp) F' H' (Wn x.2 fp') → Rep p P F' H' x.2 σ fp' → Q x.1 H') (f ρ)
/-- values that all stand still -/
def tA (p : Pm) (P : Pr) (f : FA) : TA := fun σ H Q => ∃ F ρ fp, Rep p P F H ρ σ fp ∧ wpR (Exc P F H (Wn ρ fp)) (fun x =>
  ∀ F' H' fp' vs, Ext F H (Wn ρ fp) F' H' (Wn x.2 fp') → Rep p P F' H' x.2 σ fp' → AtL p F' x.1 vs → Q vs H') (f ρ)

section
variable {p : Pm} {P : Pr} {F0 H0 F H : Hp} {W0 : Addr → Prop} {ρ : Ev} {σ : L2.St} {fp : Nat → List Addr}
theorem Val.back {H1 F H : Hp} {r : Rv} {v : V} (h : ∀ a, H0 a ≠ none → H1 a ≠ none) (x : Val p H1 F H ρ σ fp r v) : Val p H0 F H ρ σ fp r v := by
  cases r with
  | sh d => exact x
  | ow i => exact x
  | fr d =>
    obtain ⟨q, o, hq⟩ := x
    refine ⟨q, o, fun a ha => ⟨(hq a ha).1, ?_, (hq a ha).2.2⟩⟩
    cases e : H0 a with
    | none => rfl
    | some u => exact absurd (hq a ha).2.1 (h a (by rw [e]; simp))
/-- f runs next, behind a start at (F0, H0, W0) -/
theorem tE.go {f : FE} {G : Rv × Ev → Prop} {Q : VK} (E : Ext F0 H0 W0 F H (Wn ρ fp)) (R : Rep p P F H ρ σ fp) (h : wpR (Exc P F0 H0 W0) G (f ρ))
    (k : ∀ x, G x → ∀ F' H' fp' v, Ext F0 H0 W0 F' H' (Wn x.2 fp') → Ext F H (Wn ρ fp) F' H' (Wn x.2 fp') → Rep p P F' H' x.2 σ fp' → Val p H F' H' x.2 σ fp' x.1 v → Q v H') : tE p P f σ H Q :=
  ⟨F, ρ, fp, R, wpR_mono h (fun _ e => e.ext E) fun x g F' H' fp' v E' R' x' => k x g F' H' fp' v (E.trans E') E' R' x'⟩
theorem tT.go {f : FC} {G : Bool × Ev → Prop} {Q : Bool → Hp → Prop} (E : Ext F0 H0 W0 F H (Wn ρ fp)) (R : Rep p P F H ρ σ fp) (h : wpR (Exc P F0 H0 W0) G (f ρ))
    (k : ∀ x, G x → ∀ F' H' fp', Ext F0 H0 W0 F' H' (Wn x.2 fp') → Ext F H (Wn ρ fp) F' H' (Wn x.2 fp') → Rep p P F' H' x.2 σ fp' → Q x.1 H') : tT p P f σ H Q :=
  ⟨F, ρ, fp, R, wpR_mono h (fun _ e => e.ext E) fun x g F' H' fp' E' R' => k x g F' H' fp' (E.trans E') E' R'⟩
theorem tA.go {f : FA} {G : List D × Ev → Prop} {Q : List V → Hp → Prop} (E : Ext F0 H0 W0 F H (Wn ρ fp)) (R : Rep p P F H ρ σ fp) (h : wpR (Exc P F0 H0 W0) G (f ρ))
    (k : ∀ x, G x → ∀ F' H' fp' vs, Ext F0 H0 W0 F' H' (Wn x.2 fp') → Ext F H (Wn ρ fp) F' H' (Wn x.2 fp') → Rep p P F' H' x.2 σ fp' → AtL p F' x.1 vs → Q vs H') : tA p P f σ H Q :=
  ⟨F, ρ, fp, R, wpR_mono h (fun _ e => e.ext E) fun x g F' H' fp' v E' R' x' => k x g F' H' fp' v (E.trans E') E' R' x'⟩
end

theorem _root_.L2.PE.weak {X : Cx} {e : Expr} {t t' : TE} (h : PE X e t) (f : ∀ σ H Q, t' σ H Q → t σ H Q) : PE X e t' := ⟨fun pins s σ H Q I q => h.run pins s σ H Q I (f σ H Q q)⟩
theorem _root_.L2.PT.weak {X : Cx} {e : Expr} {t t' : TT} (h : PT X e t) (f : ∀ σ H Q, t' σ H Q → t σ H Q) : PT X e t' := ⟨fun pins s σ H Q I q => h.run pins s σ H Q I (f σ H Q q)⟩
theorem _root_.L2.PW.weak {X : Cx} {e : Expr} {t t' : TT} (h : PW X e t) (f : ∀ σ H Q, t' σ H Q → t σ H Q) : PW X e t' := ⟨fun wh pins s σ H Q I q => h.run wh pins s σ H Q I (f σ H Q q)⟩
theorem _root_.L2.PA.weak {X : Cx} {e : List Expr} {t t' : TA} (h : PA X e t) (f : ∀ σ H Q, t' σ H Q → t σ H Q) : PA X e t' := ⟨fun pos pins s σ H Q I q => h.run pos pins s σ H Q I (f σ H Q q)⟩
theorem _root_.L2.PS.weak {X : Cx} {e : Stmt} {t t' : TS} (h : PS X e t) (f : ∀ D σ H, t' D σ H → t D σ H) : PS X e t' := ⟨fun pins s σ H Q I q => h.run pins s σ H Q I (f Q σ H q)⟩
theorem _root_.L2.PSs.weak {X : Cx} {e : List Stmt} {t t' : TS} (h : PSs X e t) (f : ∀ D σ H, t' D σ H → t D σ H) : PSs X e t' := ⟨fun pins s σ H Q I q => h.run pins s σ H Q I (f Q σ H q)⟩

section
variable {p : Pm} {P : Pr} {F0 H0 F H : Hp} {W0 : Addr → Prop} {ρ ρ' : Ev} {σ : L2.St} {fp : Nat → List Addr}
/-- an owned object, let stand still -/
theorem Own.freeze {d : D} {v : V} {q : List Addr} (o : Own p F H d v q) (f : ∀ a ∈ q, F a = none) (s : Same F H) (ok : fzOk d = true) (full : ∀ c ns, p.cls c = some ns → ns.2.length = nf c) :
    ∃ F2, Same F F2 ∧ Same F2 H ∧ At p F2 d v ∧ ∀ a, F2 a ≠ none → F a ≠ none ∨ a ∈ q := by
  have key : ∀ {a : Addr} {u : HO}, H a = some u → F a = none → Same F (upd F a u) ∧ Same (upd F a u) H ∧ ∀ b, upd F a u b ≠ none → F b ≠ none ∨ b = a := by
    intro a u h n
    refine ⟨same_upd n, fun b w e => ?_, fun b h => ?_⟩
    · by_cases z : b = a
      · subst z; rw [upd_same] at e; cases e; exact h
      · rw [upd_ne z] at e; exact s b w e
    · by_cases z : b = a
      · exact .inr z
      · rw [upd_ne z] at h; exact .inl h
  cases o with
  | lst h l =>
    obtain ⟨k1, k2, k3⟩ := key h (f _ (by simp))
    exact ⟨_, k1, k2, .lst upd_same (l.mono k1), fun b z => (k3 b z).imp id fun e => by simp [e]⟩
  | dct h n l =>
    obtain ⟨k1, k2, k3⟩ := key h (f _ (by simp))
    exact ⟨_, k1, k2, .dct upd_same n (l.mono k1), fun b z => (k3 b z).imp id fun e => by simp [e]⟩
  | ins z h c n l =>
    obtain ⟨k1, k2, k3⟩ := key h (f _ (by simp))
    refine ⟨_, k1, k2, .ins upd_same c z.2 ?_ (l.mono k1), fun b z => (k3 b z).imp id fun e => by simp [e]⟩
    have e := full _ _ c
    simp [fzOk, Dins, insOf] at ok
    rw [n]
    refine List.take_of_length_le ?_
    rw [ok.2]
    exact Nat.le_of_eq e
  | tape ne h h2 l => simp [fzOk, Dins, insOf] at ok
end
end VL

set_option Elab.async false
set_option linter.all false
set_option maxRecDepth 100000
/-! V4: freezing, reading, operators over two expressions. -/
namespace VL
open PySem PySem.Spec PySem.W PyProof.Rows L2

def POk (p : Pm) : Prop := ∀ c ns, p.cls c = some ns → ns.2.length = nf c
/-- readable: still, or owned -/
def AtH (p : Pm) (F H : Hp) (d : D) (v : V) : Prop := At p F d v ∨ ∃ q, Own p F H d v q

section
variable {p : Pm} {P : Pr} {F0 H0 F H F' H' : Hp} {W0 : Addr → Prop} {ρ ρ' : Ev} {σ : L2.St} {fp fp' : Nat → List Addr} {r r' : Rv} {d : D} {v : V}
theorem fz_ok {Hs : Hp} (ok : POk p) (R : Rep p P F H ρ σ fp) (x : Val p Hs F H ρ σ fp r v) (e : r.fz ρ = some (d, ρ')) :
    ∃ F', (∀ {F0 H0 : Hp} {W0 : Addr → Prop}, (∀ a, H0 a ≠ none → Hs a ≠ none) → Ext F0 H0 W0 F H (Wn ρ fp) → Ext F0 H0 W0 F' H (Wn ρ' fp)) ∧ Rep p P F' H ρ' σ fp ∧ At p F' d v ∧ Same F F' := by
  cases r with
  | sh d0 =>
    simp [Rv.fz] at e
    obtain ⟨rfl, rfl⟩ := e
    exact ⟨F, fun _ E => E, R, x, Same.refl⟩
  | fr d0 =>
    simp only [Rv.fz] at e
    split at e
    · rename_i fo
      simp at e
      obtain ⟨rfl, rfl⟩ := e
      obtain ⟨q, o, hq⟩ := x
      obtain ⟨F2, s1, s2, a2, n2⟩ := o.freeze (fun a ha => (hq a ha).1) R.sub fo ok
      refine ⟨F2, fun hb E => ⟨E.same.trans s1, E.keep, E.there, fun a h => ?_, E.newW⟩, ⟨s2, R.len, fun i d e => ?_, fun i d e => ?_, R.dj, R.prm⟩, a2, s1⟩
      · rcases n2 a h with h | h
        · exact E.newF a h
        · refine .inr (.inl ?_)
          have z := (hq a h).2.1
          exact Classical.byContradiction fun y => hb a y z
      · obtain ⟨v, h1, h2⟩ := R.sh i d e
        exact ⟨v, h1, h2.mono s1⟩
      · obtain ⟨v, h1, h2, h3⟩ := R.ow i d e
        refine ⟨v, h1, h2.keep s1 (fun _ _ => rfl), fun a ha => ?_⟩
        cases z : F2 a with
        | none => rfl
        | some u =>
          rcases n2 a (by rw [z]; simp) with w | w
          · exact absurd (h3 a ha) w
          · exact absurd ⟨i, d, e, ha⟩ (hq a w).2.2
    · cases e
  | ow i =>
    have hv : σ[i]? = some (some v) := x
    simp only [Rv.fz] at e
    split at e
    · rename_i d0 hi
      simp at e
      obtain ⟨rfl, rfl⟩ := e
      obtain ⟨v', h1, h2⟩ := R.sh i d0 hi
      rw [hv] at h1
      cases h1
      exact ⟨F, fun _ E => E, R, h2, Same.refl⟩
    · rename_i d0 hi
      split at e
      · rename_i fo
        simp at e
        obtain ⟨rfl, rfl⟩ := e
        obtain ⟨v', h1, o, h3⟩ := R.ow i d0 hi
        rw [hv] at h1
        cases h1
        obtain ⟨F2, s1, s2, a2, n2⟩ := o.freeze h3 R.sub fo ok
        have hil : i < ρ.length := (List.getElem?_eq_some_iff.mp hi).1
        have get : ∀ (j : Nat) (w : SV), (ρ.set i (.sh d0))[j]? = some w → (j = i ∧ w = .sh d0) ∨ (j ≠ i ∧ ρ[j]? = some w) := fun j w e => by
          by_cases q : i = j
          · subst q
            rw [List.getElem?_set_self hil] at e
            exact .inl ⟨rfl, (Option.some.inj e).symm⟩
          · rw [List.getElem?_set_ne q] at e
            exact .inr ⟨fun z => q z.symm, e⟩
        refine ⟨F2, fun hb E => ⟨E.same.trans s1, E.keep, E.there, fun a h => ?_, fun a w => ?_⟩, ⟨s2, by rw [List.length_set]; exact R.len, fun j d e => ?_, fun j d e => ?_, fun j k d e hjk h1 h2 => ?_, fun q hq d e => ?_⟩, a2, s1⟩
        · rcases n2 a h with h | h
          · exact E.newF a h
          · rcases E.newW a ⟨i, d0, hi, h⟩ with w | w
            · exact .inr (.inr w)
            · exact .inr (.inl w)
        · obtain ⟨j, d, e, ha⟩ := w
          rcases get j _ e with ⟨_, z⟩ | ⟨_, z⟩
          · cases z
          · exact E.newW a ⟨j, d, z, ha⟩
        · rcases get j _ e with ⟨rfl, z⟩ | ⟨_, z⟩
          · cases z
            exact ⟨v, hv, a2⟩
          · obtain ⟨v', h1, h2⟩ := R.sh j d z
            exact ⟨v', h1, h2.mono s1⟩
        · rcases get j _ e with ⟨_, z⟩ | ⟨hj, z⟩
          · cases z
          · obtain ⟨v', h1, h2, h4⟩ := R.ow j d z
            refine ⟨v', h1, h2.keep s1 (fun _ _ => rfl), fun a ha => ?_⟩
            cases y : F2 a with
            | none => rfl
            | some u =>
              rcases n2 a (by rw [y]; simp) with w | w
              · exact absurd (h4 a ha) w
              · exact absurd w (R.dj j i d d0 hj z hi a ha)
        · rcases get j _ h1 with ⟨_, z⟩ | ⟨_, z⟩
          · cases z
          · rcases get k _ h2 with ⟨_, y⟩ | ⟨_, y⟩
            · cases y
            · exact R.dj j k d e hjk z y
        · rcases get q.1 _ e with ⟨_, z⟩ | ⟨_, z⟩
          · cases z
          · exact R.prm q hq d z
      · cases e
    · cases e
/-- an operand keeps standing -/
def Still (p : Pm) (F : Hp) (σ : L2.St) : Rv → V → Prop
  | .sh d, v => At p F d v
  | .fr _, _ => False
  | .ow i, v => σ[i]? = some (some v)
theorem Still.mono {F F' : Hp} {r : Rv} (s : Same F F') (h : Still p F σ r v) : Still p F' σ r v := by
  cases r with
  | sh d => exact At.mono s h
  | fr d => exact h
  | ow i => exact h
theorem op_ok {Hs : Hp} (ok : POk p) (R : Rep p P F H ρ σ fp) (x : Val p Hs F H ρ σ fp r v) (e : r.op = some r') :
    ∃ F', (∀ {F0 H0 : Hp} {W0 : Addr → Prop}, (∀ a, H0 a ≠ none → Hs a ≠ none) → Ext F0 H0 W0 F H (Wn ρ fp) → Ext F0 H0 W0 F' H (Wn ρ fp)) ∧ Rep p P F' H ρ σ fp ∧ Still p F' σ r' v ∧ Same F F' := by
  cases r with
  | sh d0 =>
    simp [Rv.op] at e
    subst e
    exact ⟨F, fun _ E => E, R, x, Same.refl⟩
  | fr d0 =>
    simp only [Rv.op] at e
    split at e
    · rename_i fo
      simp at e
      subst e
      obtain ⟨F', h1, h2, h3, h4⟩ := fz_ok (d := d0) (ρ' := ρ) ok R x (by simp [Rv.fz, fo])
      exact ⟨F', fun a b => h1 a b, h2, h3, h4⟩
    · cases e
  | ow i =>
    simp [Rv.op] at e
    subst e
    exact ⟨F, fun _ E => E, R, x, Same.refl⟩
theorem get_ok (R : Rep p P F H ρ σ fp) (x : Still p F σ r v) (e : r.get ρ = some d) : AtH p F H d v := by
  cases r with
  | sh d0 =>
    simp [Rv.get] at e
    subst e
    exact .inl x
  | fr d0 => exact x.elim
  | ow i =>
    have hv : σ[i]? = some (some v) := x
    simp only [Rv.get] at e
    split at e
    · rename_i d0 hi
      simp at e
      subst e
      obtain ⟨v', h1, h2⟩ := R.sh i d0 hi
      rw [hv] at h1
      cases h1
      exact .inl h2
    · rename_i d0 hi
      simp at e
      subst e
      obtain ⟨v', h1, h2, _⟩ := R.ow i d0 hi
      rw [hv] at h1
      cases h1
      exact .inr ⟨_, h2⟩
    · cases e
end

/-- what an operator is to hand back -/
def ResV (p : Pm) (H F' H' : Hp) : Rv → V → Prop
  | .sh d, v => At p F' d v
  | .fr d, v => ∃ q, Own p F' H' d v q ∧ ∀ a ∈ q, F' a = none ∧ H a = none
  | .ow _, _ => False
def OpV (p : Pm) (F H : Hp) (rv : Rv) (Q : VK) : Prop := ∀ F' H' v, Nw F H F' H' → Same F' H' → ResV p H F' H' rv v → Q v H'
def rB (p : Pm) (g : D → D → Option Rv) : R2 := fun x y H Q => ∃ F dx dy rv, Same F H ∧ AtH p F H dx x ∧ AtH p F H dy y ∧ g dx dy = some rv ∧ OpV p F H rv Q

section
variable {p : Pm} {P : Pr} {F0 H0 F H : Hp} {W0 : Addr → Prop} {ρ : Ev} {σ : L2.St} {fp : Nat → List Addr} {rv : Rv} {Q : VK}
theorem opV_of (E : Ext F0 H0 W0 F H (Wn ρ fp)) (R : Rep p P F H ρ σ fp) (k : ∀ F' H' fp' v, Ext F0 H0 W0 F' H' (Wn ρ fp') → Rep p P F' H' ρ σ fp' → Val p H0 F' H' ρ σ fp' rv v → Q v H') : OpV p F H rv Q := fun F' H' v n s x => by
  refine k F' H' fp v (E.trans n.ext) (R.new n s) ?_
  cases rv with
  | sh d => exact x
  | fr d =>
    obtain ⟨q, o, hq⟩ := x
    refine ⟨q, o, fun a ha => ⟨(hq a ha).1, E.back (hq a ha).2, fun w => ?_⟩⟩
    obtain ⟨_, u, hu⟩ := R.wn w
    rw [(hq a ha).2] at hu
    cases hu
  | ow i => exact x.elim
/-- a scalar handed back -/
theorem OpV.pure {d : D} {v : V} (h : OpV p F H (.sh d) Q) (s : Same F H) (a : At p F d v) : Q v H := h F H v Nw.refl s a
/-- a new still object -/
theorem OpV.newSh {d : D} {a : Addr} {o : HO} (h : OpV p F H (.sh d) Q) (s : Same F H) (n : H a = none) (x : At p (upd F a o) d (.ref a)) : Q (.ref a) (upd H a o) := h _ _ _ (Nw.push n s) (same_push s) x
/-- a new owned object -/
theorem OpV.newFr {d : D} {a : Addr} {o : HO} (h : OpV p F H (.fr d) Q) (s : Same F H) (n : H a = none) (x : Own p F (upd H a o) d (.ref a) [a]) : Q (.ref a) (upd H a o) := by
  refine h F (upd H a o) (.ref a) (Nw.pushH n) (fun b u e => ?_) ⟨[a], x, fun b hb => ?_⟩
  · rw [upd_ne (ne_of_none e (s.none n))]
    exact s b u e
  · simp at hb
    subst hb
    exact ⟨s.none n, n⟩
end

theorem seq2 {p : Pm} {P : Pr} (ok : POk p) {fa fb : FE} {g : D → D → Option Rv} {σ : L2.St} {H : Hp} {Q : VK} (h : tE p P (fBin fa fb g) σ H Q) :
    tOp (rB p g) (tE p P fa) (tE p P fb) σ H Q := by
  obtain ⟨F, ρ, fp, R, h⟩ := h
  unfold fBin at h
  simp only [wpR_bind, wpR_lift, wpR_pure] at h
  refine tE.go Ext.refl R h fun x g1 F1 H1 fp1 v E1 _ R1 V1 => ?_
  obtain ⟨a, h3, g1⟩ := g1
  obtain ⟨F1', m1, R1', S1, _⟩ := op_ok ok R1 V1 h3
  have E1' := m1 (fun _ h => h) E1
  refine tE.go E1' R1' g1 fun y g2 F2 H2 fp2 w E2 Er R2 V2 => ?_
  obtain ⟨b, h4, c, h5, d, h6, r, h7, k⟩ := g2
  obtain ⟨F2', m2, R2', S2, s2⟩ := op_ok ok R2 V2 h4
  exact ⟨F2', c, d, r, R2'.sub, get_ok R2' (S1.mono (Er.same.trans s2)) h5, get_ok R2' S2 h6, h7, opV_of (m2 E1'.there E2) R2' k⟩
end VL

set_option Elab.async false
set_option linter.all false
set_option maxRecDepth 100000
/-! V5: the operators, by values. -/
namespace VL
open PySem PySem.Spec PySem.W PyProof.Rows L2

abbrev pmOf (X : Cx) (cls : Nat → Option (Addr × List Str)) : Pm := ⟨X.prog, X.w, X.K, cls⟩

section
variable {p : Pm} {F H : Hp} {v : V}
theorem AtH.non (h : AtH p F H .none v) : v = .non := by
  rcases h with h | ⟨q, h⟩ <;> cases h
  rfl
theorem AtH.bl {b : Bool} (h : AtH p F H (.bool b) v) : v = .bl b := by
  rcases h with h | ⟨q, h⟩ <;> cases h
  rfl
theorem AtH.int {i : Int} (h : AtH p F H (.int i) v) : v = .int i := by
  rcases h with h | ⟨q, h⟩ <;> cases h
  rfl
theorem AtH.lst {ds : List D} (s : Same F H) (h : AtH p F H (.list ds) v) : ∃ a vs, v = .ref a ∧ H a = some (.lst vs) ∧ AtL p F ds vs := by
  rcases h with h | ⟨q, h⟩
  · cases h with
    | lst h l => exact ⟨_, _, rfl, s _ _ h, l⟩
  · cases h with
    | lst h l => exact ⟨_, _, rfl, h, l⟩
theorem AtH.tup {ds : List D} (s : Same F H) (h : AtH p F H (.tuple ds) v) : ∃ a vs, v = .ref a ∧ SqT p.K H a vs ∧ AtL p F ds vs ∧ SqT p.K F a vs := by
  rcases h with h | ⟨q, h⟩
  · cases h with
    | tup h l => exact ⟨_, _, rfl, s.sqT h, l, h⟩
  · cases h
theorem AtH.dct {kvs : List (D × D)} (s : Same F H) (n : plainD kvs = true) (h : AtH p F H (.dict kvs) v) : ∃ a xs ep, v = .ref a ∧ H a = some (dO p.P p.w a xs ep) ∧ AtK p F kvs xs := by
  rcases h with h | ⟨q, h⟩
  · cases h with
    | scr h => cases n
    | dct h m k => exact ⟨_, _, _, rfl, s _ _ h, k⟩
    | ins h c z m l => cases n
  · cases h with
    | dct h m k => exact ⟨_, _, _, rfl, h, k⟩
    | ins z h c m l => cases n
    | tape ne h h2 l => cases n
theorem AtH.str {x : Str} (h : AtH p F H (.str x) v) : v = .str x := by
  rcases h with h | ⟨q, h⟩ <;> cases h
  rfl
mutual
theorem At.dp (s : Same F H) : ∀ (d : D) (v : V), d.canLay0 = true → At p F d v → Dp p.K H v d
  | .none, _, _, h => by cases h; exact .non
  | .bool _, _, _, h => by cases h; exact .bl _
  | .int _, _, _, h => by cases h; exact .int _
  | .str _, _, _, h => by cases h; exact .str _
  | .list ds, _, c, h => by
    cases h with
    | lst h l => exact .lst (.of (s _ _ h)) (AtL.dp s ds _ (by simpa [PyData.canLay0] using c) l)
  | .tuple ds, _, c, h => by
    cases h with
    | tup h l => exact .tup (s.sqT h) (AtL.dp s ds _ (by simpa [PyData.canLay0] using c) l)
  | .dict _, _, c, _ => by simp [PyData.canLay0] at c
theorem AtL.dp (s : Same F H) : ∀ (ds : List D) (vs : List V), PyData.canLayAll0 ds = true → AtL p F ds vs → DpAll p.K H vs ds
  | [], _, _, h => by cases h; exact .nil
  | d :: ds, _, c, h => by
    cases h with
    | cons h t =>
      have c' : d.canLay0 = true ∧ PyData.canLayAll0 ds = true := by simpa [PyData.canLayAll0] using c
      exact .cons (At.dp s d _ c'.1 h) (AtL.dp s ds _ c'.2 t)
end
theorem AtH.dp {d : D} (s : Same F H) (c : d.canLay0 = true) (h : AtH p F H d v) : Dp p.K H v d := by
  rcases h with h | ⟨q, h⟩
  · exact h.dp s _ _ c
  · cases h with
    | lst h l => exact .lst (.of h) (l.dp s _ _ (by simpa [PyData.canLay0] using c))
    | dct h m k => simp [PyData.canLay0] at c
    | ins z h c' m l => simp [PyData.canLay0, Dins] at c
    | tape ne h h2 l => simp [PyData.canLay0, Dins] at c
theorem okD_lay {d : D} (h : okD d = true) : d.canLay0 = true := (Bool.and_eq_true_iff.mp h).1
theorem okD_depth {d : D} (h : okD d = true) : d.depth ≤ 20 := of_decide_eq_true (Bool.and_eq_true_iff.mp h).2
theorem okD_shaped {d : D} (h : okD d = true) : SeqAt.shaped d = true := by
  unfold SeqAt.shaped
  rw [okD_lay h, decide_eq_true (Nat.le_trans (okD_depth h) (by decide))]
  rfl

theorem okD_all {ds : List D} (h : okD (.list ds) = true) : PyData.canLayAll0 ds = true ∧ PyData.depthAll ds ≤ 19 := by
  have h1 := okD_lay h
  have h2 := okD_depth h
  simp only [PyData.canLay0] at h1
  simp only [PyData.depth] at h2
  exact ⟨h1, by omega⟩
theorem okD_allT {ds : List D} (h : okD (.tuple ds) = true) : PyData.canLayAll0 ds = true ∧ PyData.depthAll ds ≤ 19 := by
  have h1 := okD_lay h
  have h2 := okD_depth h
  simp only [PyData.canLay0] at h1
  simp only [PyData.depth] at h2
  exact ⟨h1, by omega⟩
theorem notNone_ne {d : D} (h : notNone d = true) : d ≠ .none := fun e => by subst e; cases h
end

def opOf : MOp → Operator
  | .add => .Add | .sub => .Sub | .mul => .Mult | .fdiv => .FloorDiv | .mod => .Mod | .pow => .Pow
def cmpOf : COp → CmpOp
  | .eq => .Eq | .ne => .NotEq | .lt => .Lt | .le => .LtE | .gt => .Gt | .ge => .GtE | .isN => .Is | .notN => .IsNot | .isin => .In | .notin => .NotIn
theorem lim_line : lim ≤ sizeLine := by rw [sizeLine_eq]; decide
theorem cmul_of {i j : Int} (h : i.natAbs < 2 ^ 64 ∨ j.natAbs < 2 ^ 64) : CMul i j := by
  rcases h with h | h
  · exact .inl (by omega)
  · exact .inr (by omega)

section
variable {X : Cx} {cls : Nat → Option (Addr × List Str)}
theorem opr_bin (op : MOp) : OpR X (binaryOp (opOf op)) (rB (pmOf X cls) (binD op)) := by
  intro pins s σ H x y v u Q I rx ry ⟨F, dx, dy, rv, sF, hx, hy, e, k⟩
  cases op with
  | add =>
    simp only [binD] at e
    unfold addD at e
    split at e <;> (try cases e)
    · exact op_add pins s σ H _ _ v u Q I rx ry ⟨_, _, hx.int, hy.int, k.pure sF (.int _)⟩
    · split at e
      · rename_i hl
        cases e
        obtain ⟨a, vs, rfl, ha, la⟩ := hx.lst sF
        obtain ⟨b, ws, rfl, hb, lb⟩ := hy.lst sF
        refine op_cat pins s σ H _ _ v u Q I rx ry ⟨a, b, vs, ws, rfl, rfl, ha, hb, ?_, fun q n => k.newFr sF n (.lst upd_same (la.append lb))⟩
        rw [← la.length, ← lb.length]
        exact Nat.le_trans hl lim_line
      · cases e
    · split at e
      · rename_i hl
        cases e
        obtain ⟨a, vs, rfl, ha, la, fa⟩ := hx.tup sF
        obtain ⟨b, ws, rfl, hb, lb, fb⟩ := hy.tup sF
        refine op_catA pins s σ H _ _ v u Q I rx ry ⟨a, b, vs, ws, rfl, rfl, ha, hb, ?_, fun z => ?_, fun _ z => ?_, fun _ _ q n => k.newSh sF n (.tup (.of upd_same) ((la.append lb).mono (same_upd (sF.none n))))⟩
        · rw [← la.length, ← lb.length]
          exact Nat.le_trans hl lim_line
        · subst z
          cases la
          exact k.pure sF (.tup fb lb)
        · subst z
          cases lb
          rw [List.append_nil] at k
          exact k.pure sF (.tup fa la)
      · cases e
  | sub =>
    simp only [binD] at e
    unfold subD at e
    split at e <;> (try cases e)
    exact op_sub pins s σ H _ _ v u Q I rx ry ⟨_, _, hx.int, hy.int, k.pure sF (.int _)⟩
  | mul =>
    simp only [binD] at e
    unfold mulD at e
    split at e <;> (try cases e)
    split at e
    · rename_i hc
      cases e
      exact op_mul pins s σ H _ _ v u Q I rx ry ⟨_, _, hx.int, hy.int, cmul_of hc, k.pure sF (.int _)⟩
    · cases e
  | fdiv =>
    simp only [binD] at e
    unfold fdivD at e
    split at e <;> (try cases e)
    split at e
    · rename_i hc
      cases e
      exact op_fdivN pins s σ H _ _ v u Q I rx ry ⟨_, _, hx.int, hy.int, hc, k.pure sF (.int _)⟩
    · cases e
  | mod =>
    simp only [binD] at e
    unfold modD at e
    split at e <;> (try cases e)
    split at e
    · rename_i hc
      cases e
      exact op_modN pins s σ H _ _ v u Q I rx ry ⟨_, _, hx.int, hy.int, hc, k.pure sF (.int _)⟩
    · cases e
  | pow =>
    simp only [binD] at e
    unfold powD at e
    split at e <;> (try cases e)
    split at e
    · rename_i hc
      cases e
      exact op_pow pins s σ H _ _ v u Q I rx ry ⟨_, _, hx.int, hy.int, ⟨hc.1, by omega, hc.2.2⟩, k.pure sF (.int _)⟩
    · cases e
/-! ### comparisons -/
theorem AtH.isnon {p : Pm} {F H : Hp} {d : D} {v : V} (h : AtH p F H d v) : decide (v = .non) = !notNone d := by
  rcases h with h | ⟨q, h⟩ <;> cases h <;> rfl
section
variable {pins : List (Addr × Obj)} {σ : L2.St} {F H : Hp} {s : Shared}
mutual
theorem at_nested (I : L2.Inv X pins σ H s) (sF : Same F H) : ∀ (d : D) (v : V) (u : Value) (k : NestedKey), At (pmOf X cls) F d v → keyOf d = some k → L2.RelV v u → NestedIs s.heap k u
  | .none, _, _, _, h, e, r => by
    cases h
    cases r
    simp [keyOf] at e
    subst e
    exact .none
  | .bool b, _, _, _, h, e, r => by
    cases h
    cases r
    simp [keyOf] at e
    subst e
    exact .bool rfl
  | .int i, _, _, _, h, e, r => by
    cases h
    obtain ⟨t, rfl⟩ := r
    simp [keyOf] at e
    subst e
    exact .int i t
  | .str x, _, _, _, h, e, r => by
    cases h
    obtain ⟨t, rfl⟩ := r
    simp [keyOf] at e
    subst e
    exact .text x t
  | .list _, _, _, _, _, e, _ => by simp [keyOf] at e
  | .dict _, _, _, _, _, e, _ => by simp [keyOf] at e
  | .tuple ds, _, _, _, h, e, r => by
    cases h with
    | tup hs l =>
      cases r
      rw [keyOf] at e
      cases hk : keysOf ds with
      | none => rw [hk] at e; cases e
      | some ks =>
        rw [hk] at e
        cases e
        obtain ⟨its, rv, ⟨o, ho, hc, n, hd⟩, _⟩ := I.tuple (sF.sqT hs)
        exact .tup ho hc hd (at_nesteds I sF ds _ its ks l hk rv)
theorem at_nesteds (I : L2.Inv X pins σ H s) (sF : Same F H) : ∀ (ds : List D) (vs : List V) (us : List Value) (ks : List NestedKey), AtL (pmOf X cls) F ds vs → keysOf ds = some ks → L2.Vals vs us → NestedAll s.heap ks us
  | [], _, _, _, h, e, r => by
    cases h
    cases r
    simp [keysOf] at e
    subst e
    exact .nil
  | d :: ds, _, _, _, h, e, r => by
    cases h with
    | cons h l =>
      cases r with
      | cons r rr =>
        rw [keysOf] at e
        cases h1 : keyOf d with
        | none => rw [h1] at e; cases e
        | some k =>
          cases h2 : keysOf ds with
          | none => rw [h1, h2] at e; cases e
          | some ks =>
            rw [h1, h2] at e
            cases e
            exact .cons (at_nested I sF d _ _ _ h h1 r) (at_nesteds I sF ds _ _ _ l h2 rr)
end
theorem AtK.nested (I : L2.Inv X pins σ H s) (sF : Same F H) : ∀ {kvs : List (D × D)} {xs : List (NestedKey × Addr × Value)}, AtK (pmOf X cls) F kvs xs → ∀ x ∈ xs, (nestedKind X.prog X.w).is s.heap x.1 x.2.1
  | _, _, .nil => fun x h => by cases h
  | _, _, .cons e n h r hv t => fun x hx => by
    rcases List.mem_cons.mp hx with rfl | hx
    · exact ⟨at_nested I sF _ _ _ _ h e rfl, n⟩
    · exact AtK.nested I sF t x hx
theorem dct_at (I : L2.Inv X pins σ H s) (sF : Same F H) {a : Addr} {kvs : List (D × D)} {xs : List (NestedKey × Addr × Value)} {ep : Nat} (h : H a = some (dO X.prog X.w a xs ep)) (k : AtK (pmOf X cls) F kvs xs) :
    (a == sysModules) = false ∧ xs.length ≤ sizeLine ∧ s.heap.DictOfH (nestedKind X.prog X.w) a xs := by
  obtain ⟨⟨h1, h2, h3, o, es, h4, h5, h6, h7⟩, _⟩ := I.hok a _ h
  exact ⟨h1, h2, o, es, ep, h4, h5, h6, h7, k.nested I sF, h3⟩
end
def rC (p : Pm) (op : COp) : R2 := fun x y H Q => ∃ F dx dy b, Same F H ∧ AtH p F H dx x ∧ AtH p F H dy y ∧ cmpD op dx dy = some b ∧ Q (.bl b) H
theorem room8 {A : Around} (h : A.units + 64 < cLine) : (nestedKind X.prog X.w).room A.in1 := by
  show A.units + 1 + 8 < cLine
  omega
theorem eqD_some {a b : D} {r : Bool} (h : eqD a b = some r) : okD a = true ∧ okD b = true ∧ r = PyData.eqv a b := by
  unfold eqD at h
  split at h
  · rename_i q
    cases h
    exact ⟨q.1, q.2, rfl⟩
  · cases h
theorem ltD_some {a b : D} {r : Bool} (h : ltD a b = some r) : alike a b = true ∧ okD a = true ∧ okD b = true ∧ notNone a = true ∧ r = dataLt a b := by
  unfold ltD at h
  split at h
  · rename_i q
    cases h
    exact ⟨q.1, q.2.1, q.2.2.1, q.2.2.2, rfl⟩
  · cases h
theorem gtD_some {a b : D} {r : Bool} (h : gtD a b = some r) : alike a b = true ∧ okD a = true ∧ okD b = true ∧ notNone a = true ∧ r = dataLt b a := by
  unfold gtD at h
  split at h
  · rename_i q
    cases h
    exact ⟨q.1, q.2.1, q.2.2.1, q.2.2.2, rfl⟩
  · cases h
theorem map_not {o : Option Bool} {b : Bool} (h : o.map (!·) = some b) : o = some (!b) := by
  cases o with
  | none => cases h
  | some c => cases h; simp
theorem min_le20 {a b : D} (h : okD a = true) : min a.depth b.depth ≤ 20 := Nat.le_trans (Nat.min_le_left _ _) (okD_depth h)
theorem in_cases {d e : D} {b : Bool} (h : inD d e = some b) : (∃ ds, (e = .list ds ∨ e = .tuple ds) ∧ okD d = true ∧ PyData.canLayAll0 ds = true ∧ PyData.depthAll ds ≤ 19 ∧ b = memD ds d) ∨ ∃ kvs k, e = .dict kvs ∧ keyT d = some k ∧ plainD kvs = true ∧ b = (dfind kvs k).isSome := by
  unfold inD at h
  split at h
  · split at h
    · rename_i q
      cases h
      exact .inl ⟨_, .inl rfl, q.1, (okD_all q.2).1, (okD_all q.2).2, rfl⟩
    · cases h
  · split at h
    · rename_i q
      cases h
      exact .inl ⟨_, .inr rfl, q.1, (okD_allT q.2).1, (okD_allT q.2).2, rfl⟩
    · cases h
  · split at h
    · rename_i k q
      split at h
      · rename_i n
        cases h
        exact .inr ⟨_, _, rfl, q, n, rfl⟩
      · cases h
    · cases h
  · cases h
theorem opr_cmp (hr : X.A.units + 64 < cLine) (op : COp) : OpR X (compareOp (cmpOf op)) (rC (pmOf X cls) op) := by
  intro pins s σ H x y v u Q I rx ry ⟨F, dx, dy, b, sF, hx, hy, e, k⟩
  have fin : ∀ {t : Nat}, EP X pins σ Q (.bool b) { s with toks := t } := ⟨.bl b, H, I.tok _, rfl, k⟩
  have fin0 : EP X pins σ Q (.bool b) s := ⟨.bl b, H, I, rfl, k⟩
  have rd : ∀ {d : D} {v : V} {u : Value}, AtH (pmOf X cls) F H d v → okD d = true → L2.RelV v u → ∃ as, Reads s.heap u d as := fun {d v u} h o r => Dp.reads I d v u (h.dp sF (okD_lay o)) r
  cases op with
  | eq =>
    obtain ⟨o1, o2, rfl⟩ := eqD_some e
    exact op_eqD hr pins s σ H _ _ v u Q I rx ry ⟨dx, dy, hx.dp sF (okD_lay o1), hy.dp sF (okD_lay o2), okD_shaped o1, okD_shaped o2, k⟩
  | ne =>
    obtain ⟨o1, o2, e2⟩ := eqD_some (map_not e)
    refine op_neD hr pins s σ H _ _ v u Q I rx ry ⟨dx, dy, hx.dp sF (okD_lay o1), hy.dp sF (okD_lay o2), okD_shaped o1, okD_shaped o2, ?_⟩
    rw [← e2, Bool.not_not]
    exact k
  | lt =>
    obtain ⟨al, o1, o2, nn, rfl⟩ := ltD_some e
    obtain ⟨as, r1⟩ := rd hx o1 rx
    obtain ⟨bs, r2⟩ := rd hy o2 ry
    exact lt_data r1 r2 al (notNone_ne nn) (by have := min_le20 (b := dy) o1; omega) fin0
  | gt =>
    obtain ⟨al, o1, o2, nn, rfl⟩ := gtD_some e
    obtain ⟨as, r1⟩ := rd hx o1 rx
    obtain ⟨bs, r2⟩ := rd hy o2 ry
    exact gt_data r1 r2 al (notNone_ne nn) (by have := min_le20 (b := dy) o1; omega) fin0
  | le =>
    obtain ⟨al, o1, o2, nn, e2⟩ := gtD_some (map_not e)
    obtain ⟨as, r1⟩ := rd hx o1 rx
    obtain ⟨bs, r2⟩ := rd hy o2 ry
    refine le_data r1 r2 al (notNone_ne nn) (by have := min_le20 (b := dy) o1; omega) ?_
    rw [← e2, Bool.not_not]
    exact fin0
  | ge =>
    obtain ⟨al, o1, o2, nn, e2⟩ := ltD_some (map_not e)
    obtain ⟨as, r1⟩ := rd hx o1 rx
    obtain ⟨bs, r2⟩ := rd hy o2 ry
    refine ge_data r1 r2 al (notNone_ne nn) (by have := min_le20 (b := dy) o1; omega) ?_
    rw [← e2, Bool.not_not]
    exact fin0
  | isN =>
    simp only [cmpD] at e
    unfold isND at e
    split at e
    · cases e
      refine op_isN pins s σ H _ _ v u Q I rx ry ⟨hy.non, ?_⟩
      rw [hx.isnon]
      exact k
    · cases e
  | notN =>
    have e' : isND dx dy = some (!b) := map_not e
    unfold isND at e'
    split at e'
    · have e2 : (!notNone dx) = !b := Option.some.inj e'
      refine op_notN pins s σ H _ _ v u Q I rx ry ⟨hy.non, ?_⟩
      rw [hx.isnon, e2, Bool.not_not]
      exact k
    · cases e'
  | isin =>
    rcases in_cases e with ⟨ds, hd, o1, c, dp, rfl⟩ | ⟨kvs, key, rfl, hk, n, rfl⟩
    · obtain ⟨as, r1⟩ := rd hx o1 rx
      rcases hd with rfl | rfl
      · obtain ⟨bs, r2⟩ := Dp.reads I _ y u (hy.dp sF (by simpa [PyData.canLay0] using c)) ry
        exact SeqAt.in_list_reads r2 r1 c (okD_lay o1) (by have := Nat.min_le_left (PyData.depthAll ds) dx.depth; omega) fin0
      · obtain ⟨bs, r2⟩ := Dp.reads I _ y u (hy.dp sF (by simpa [PyData.canLay0] using c)) ry
        exact SeqAt.in_tuple_reads r2 r1 c (okD_lay o1) (by have := Nat.min_le_left (PyData.depthAll ds) dx.depth; omega) fin0
    · obtain ⟨k1, k2, ds, rfl⟩ := keyT_some hk
      obtain ⟨a, xs, ep, rfl, ha, ak⟩ := hy.dct sF n
      obtain ⟨b, vs, rfl, hb, lb, fb⟩ := hx.tup sF
      cases rx
      cases ry
      obtain ⟨h1, h2, h3⟩ := dct_at I sF ha ak
      refine wpAny_in_heap (room8 hr) ⟨at_nested I sF _ _ _ _ (.tup fb lb) k1 rfl, k2⟩ h1 h3 ?_
      have e3 : (atKey xs key).isSome = (dfind kvs key).isSome := by
        rcases ak.find key with ⟨z1, z2⟩ | ⟨_, _, _, _, z1, z2, _, _⟩
        · rw [z1, z2]; rfl
        · rw [z1, z2]; rfl
      rw [e3]
      exact fin
  | notin =>
    have e' := map_not e
    rcases in_cases e' with ⟨ds, hd, o1, c, dp, e2⟩ | ⟨kvs, key, rfl, hk, n, e2⟩
    · obtain ⟨as, r1⟩ := rd hx o1 rx
      have e3 : b = !memD ds dx := by rw [← e2, Bool.not_not]
      subst e3
      rcases hd with rfl | rfl
      · obtain ⟨bs, r2⟩ := Dp.reads I _ y u (hy.dp sF (by simpa [PyData.canLay0] using c)) ry
        exact SeqAt.notIn_list_reads r2 r1 c (okD_lay o1) (by have := Nat.min_le_left (PyData.depthAll ds) dx.depth; omega) fin0
      · obtain ⟨bs, r2⟩ := Dp.reads I _ y u (hy.dp sF (by simpa [PyData.canLay0] using c)) ry
        exact SeqAt.notIn_tuple_reads r2 r1 c (okD_lay o1) (by have := Nat.min_le_left (PyData.depthAll ds) dx.depth; omega) fin0
    · obtain ⟨k1, k2, ds, rfl⟩ := keyT_some hk
      obtain ⟨a, xs, ep, rfl, ha, ak⟩ := hy.dct sF n
      obtain ⟨b', vs, rfl, hb, lb, fb⟩ := hx.tup sF
      cases rx
      cases ry
      obtain ⟨h1, h2, h3⟩ := dct_at I sF ha ak
      refine notIn_keyed (kvs := pairsH xs) (room8 hr) ⟨at_nested I sF _ _ _ _ (.tup fb lb) k1 rfl, k2⟩ h1 ⟨xs, h3, rfl⟩ ?_
      have e3 : (!(valueAt (pairsH xs) key).isSome) = b := by
        rw [valueAt_pairsH, Option.isSome_map]
        rw [← Bool.not_not b, e2]
        rcases ak.find key with ⟨z1, z2⟩ | ⟨_, _, _, _, z1, z2, _, _⟩
        · rw [z1, z2]; rfl
        · rw [z1, z2]; rfl
      rw [e3]
      exact fin
end
end VL

set_option Elab.async false
set_option linter.all false
set_option maxRecDepth 100000
/-! V6: built-ins, by values. -/
namespace VL
open PySem PySem.Spec PySem.W PyProof.Rows L2

def rCall (p : Pm) (b : BI) : List V → Hp → VK → Prop := fun vs H Q => ∃ F ds rv, Same F H ∧ Paired (AtH p F H) ds vs ∧ biD b ds = some rv ∧ OpV p F H rv Q
theorem _root_.PySem.Paired.one {α β : Type} {R : α → β → Prop} {x : α} {vs : List β} (h : Paired R [x] vs) : ∃ v, vs = [v] ∧ R x v := by
  cases h with
  | cons h t => cases t; exact ⟨_, rfl, h⟩
theorem _root_.PySem.Paired.two {α β : Type} {R : α → β → Prop} {x y : α} {vs : List β} (h : Paired R [x, y] vs) : ∃ v w, vs = [v, w] ∧ R x v ∧ R y w := by
  cases h with
  | cons h t =>
    cases t with
    | cons h' t' => cases t'; exact ⟨_, _, rfl, h, h'⟩

theorem intsOf_some : ∀ {ds : List D} {ns : List Int}, intsOf ds = some ns → ds = ns.map .int
  | [], ns, h => by simp [intsOf] at h; subst h; rfl
  | .int i :: r, ns, h => by
    rw [intsOf] at h
    cases q : intsOf r with
    | none => rw [q] at h; cases h
    | some ms =>
      rw [q] at h
      cases h
      rw [intsOf_some q]
      rfl
  | .none :: _, _, h | .bool _ :: _, _, h | .str _ :: _, _, h | .list _ :: _, _, h | .tuple _ :: _, _, h | .dict _ :: _, _, h => by simp [intsOf] at h
theorem boolsOf_some : ∀ {ds : List D} {ns : List Bool}, boolsOf ds = some ns → ds = ns.map .bool
  | [], ns, h => by simp [boolsOf] at h; subst h; rfl
  | .bool i :: r, ns, h => by
    rw [boolsOf] at h
    cases q : boolsOf r with
    | none => rw [q] at h; cases h
    | some ms =>
      rw [q] at h
      cases h
      rw [boolsOf_some q]
      rfl
  | .none :: _, _, h | .int _ :: _, _, h | .str _ :: _, _, h | .list _ :: _, _, h | .tuple _ :: _, _, h | .dict _ :: _, _, h => by simp [boolsOf] at h
theorem AtL.vints {p : Pm} {F : Hp} : ∀ {ns : List Int} {vs : List V}, AtL p F (ns.map .int) vs → vs = ns.map V.int
  | [], _, h => by cases h; rfl
  | n :: ns, _, h => by
    cases h with
    | cons h t =>
      cases h
      rw [AtL.vints t]
      rfl
theorem AtL.vbools {p : Pm} {F : Hp} : ∀ {ns : List Bool} {vs : List V}, AtL p F (ns.map .bool) vs → vs = ns.map V.bl
  | [], _, h => by cases h; rfl
  | n :: ns, _, h => by
    cases h with
    | cons h t =>
      cases h
      rw [AtL.vbools t]
      rfl

/-! ### sorting -/
/-- an item with its datum, over F -/
def ItR (p : Pm) (F : Hp) (u : Value) (b : D × V) : Prop := L2.RelV b.2 u ∧ At p F b.1 b.2
theorem itR_of {p : Pm} {F : Hp} : ∀ {ds : List D} {vs : List V} {us : List Value}, AtL p F ds vs → L2.Vals vs us → EachIs (ItR p F) us (ds.zip vs)
  | _, _, _, .nil, .nil => .nil
  | _, _, _, .cons h t, .cons r rr => .cons ⟨r, h⟩ (itR_of t rr)
theorem of_itR {p : Pm} {F : Hp} : ∀ {us : List Value} {bs : List (D × V)}, EachIs (ItR p F) us bs → AtL p F (bs.map (·.1)) (bs.map (·.2)) ∧ L2.Vals (bs.map (·.2)) us
  | _, _, .nil => ⟨.nil, .nil⟩
  | _, _, .cons h t => ⟨.cons h.2 (of_itR t).1, .cons h.1 (of_itR t).2⟩
theorem zip_fst {p : Pm} {F : Hp} : ∀ {ds : List D} {vs : List V}, AtL p F ds vs → (ds.zip vs).map (·.1) = ds
  | _, _, .nil => rfl
  | _, _, .cons h t => by rw [List.zip_cons_cons, List.map_cons, zip_fst t]
theorem sort_fst (bs : List (D × V)) : (bs.mergeSort (dataLe false (·.1))).map (·.1) = sortD (bs.map (·.1)) :=
  sort_maps (r := dataLe false (fun b : D × V => b.1)) (s := dataLe false id) (·.1) fun _ _ _ _ => rfl
theorem canAll_mem : ∀ {ds : List D}, PyData.canLayAll0 ds = true → ∀ d ∈ ds, d.canLay0 = true
  | [], _, _, h => by cases h
  | d :: ds, c, e, h => by
    have c' : d.canLay0 = true ∧ PyData.canLayAll0 ds = true := by simpa [PyData.canLayAll0] using c
    rcases List.mem_cons.mp h with rfl | h
    · exact c'.1
    · exact canAll_mem c'.2 e h
theorem depthAll_mem : ∀ {ds : List D} {d : D}, d ∈ ds → d.depth ≤ PyData.depthAll ds
  | d' :: ds, d, h => by
    rw [PyData.depthAll]
    rcases List.mem_cons.mp h with rfl | h
    · exact Nat.le_max_left _ _
    · exact Nat.le_trans (depthAll_mem h) (Nat.le_max_right _ _)
theorem alikeB_all {ds : List D} (h : alikeB ds = true) : AllAlike ds := fun d hd e he => by
  have h1 := List.all_eq_true.mp h d hd
  exact List.all_eq_true.mp h1 e he
theorem sortOk_some {ds : List D} (h : sortOk ds = true) : AllAlike ds ∧ Sortable ds ∧ PyData.canLayAll0 ds = true ∧ PyData.depthAll ds ≤ 19 ∧ ds.length ≤ lim := by
  unfold sortOk at h
  simp only [Bool.and_eq_true, Bool.or_eq_true, decide_eq_true_eq] at h
  obtain ⟨⟨⟨h1, h2⟩, h3⟩, h4⟩ := h
  refine ⟨alikeB_all h1, ?_, (okD_all h3).1, (okD_all h3).2, h4⟩
  rcases h2 with h2 | h2
  · refine .inl fun d hd => ?_
    have q := List.all_eq_true.mp h2 d hd
    unfold isTup1 at q
    split at q
    · exact ⟨_, _, rfl⟩
    · cases q
  · refine .inr fun d hd => ?_
    have q := List.all_eq_true.mp h2 d hd
    exact ⟨fun e => by subst e; simp [isAtom] at q, fun xs e => by subst e; simp [isAtom] at q⟩
theorem cmpOk_some {ds : List D} (h : cmpOk ds = true) : AlikeAll ds ∧ PyData.canLayAll0 ds = true ∧ PyData.depthAll ds ≤ 19 := by
  unfold cmpOk at h
  simp only [Bool.and_eq_true] at h
  obtain ⟨⟨h1, h2⟩, h3⟩ := h
  exact ⟨⟨fun d hd e he => alikeB_all h1 d hd e he, fun d hd => notNone_ne (List.all_eq_true.mp h2 d hd)⟩, (okD_all h3).1, (okD_all h3).2⟩
mutual
theorem reads_there {h : Heap} : ∀ {v : Value} {d : PyData} {as : List Addr}, Reads h v d as → ∀ {a : Addr}, a ∈ as → ∃ o, h.get? a = some o
  | _, _, _, .none, _, m => by cases m
  | _, _, _, .bool _, _, m => by cases m
  | _, _, _, .int _ _, _, m => by cases m
  | _, _, _, .str _ _, _, m => by cases m
  | _, _, _, .list h1 _ _ h4, _, m => by
    rcases List.mem_cons.mp m with rfl | m
    · exact ⟨_, h1⟩
    · exact readsAll_there h4 m
  | _, _, _, .tuple _ _ _ h4, _, m => readsAll_there h4 m
  | _, _, _, .dict h1 _ _ h4 h5, _, m => by
    rcases List.mem_append.mp m with m | m
    · rcases List.mem_cons.mp m with rfl | m
      · exact ⟨_, h1⟩
      · exact readsAll_there h4 m
    · exact readsAll_there h5 m
theorem readsAll_there {h : Heap} : ∀ {vs : List Value} {ds : List PyData} {as : List Addr}, ReadsAll h vs ds as → ∀ {a : Addr}, a ∈ as → ∃ o, h.get? a = some o
  | _, _, _, .nil, _, m => by cases m
  | _, _, _, .cons h1 h2, _, m => by
    rcases List.mem_append.mp m with m | m
    · exact reads_there h1 m
    · exact readsAll_there h2 m
end
section
variable {X : Cx} {cls : Nat → Option (Addr × List Str)} {pins : List (Addr × Obj)} {σ : L2.St} {F H : Hp} {s : Shared}
theorem at_reads (I : L2.Inv X pins σ H s) (sF : Same F H) {d : D} {v : V} {u : Value} (h : At (pmOf X cls) F d v) (c : d.canLay0 = true) (r : L2.RelV v u) : ∃ as, Reads s.heap u d as := Dp.reads I d v u (h.dp sF _ _ c) r
theorem itR_reads (I : L2.Inv X pins σ H s) (sF : Same F H) : ∀ {us : List Value} {bs : List (D × V)}, EachIs (ItR (pmOf X cls) F) us bs → PyData.canLayAll0 (bs.map (·.1)) = true → EachIs (fun v b => ∃ as, Reads s.heap v ((fun z : D × V => z.1) b) as) us bs
  | _, _, .nil, _ => .nil
  | _, _, .cons h t, c => by
    have c' := canAll_mem c
    exact .cons (at_reads I sF h.2 (c' _ (by simp)) h.1) (itR_reads I sF t (by simpa [PyData.canLayAll0] using (show _ ∧ _ by simpa [PyData.canLayAll0] using c).2))
/-- sorted of a list -/
theorem sorted_run (hr : X.A.units + 64 < cLine) (I : L2.Inv X pins σ H s) (sF : Same F H) {a : Addr} {ds : List D} {vs : List V} {Q : VK} (ha : H a = some (.lst vs)) (l : AtL (pmOf X cls) F ds vs) (ok : sortOk ds = true)
    (k : OpV (pmOf X cls) F H (.fr (.list (sortD ds))) Q) : wpAny (model X.prog X.w) X.A (call (.builtin "sorted") [.ref a]) (EP X pins σ Q) X.xe s := by
  obtain ⟨al, so, cl, dp, ln⟩ := sortOk_some ok
  obtain ⟨its, rv, hl, hz⟩ := I.list (.of ha)
  have e1 := itR_of l rv
  have zf := zip_fst l
  refine sorted_data (enc := fun z : D × V => z.1) hl.isList e1 (itR_reads I sF e1 (by rw [zf]; exact cl)) (by rw [zf]; exact al) (by rw [zf]; exact so) ?_ (fun b hb => ?_) fun out ho eo => ?_
  · rw [List.length_zip, ← l.length, Nat.min_self]
    exact Nat.le_trans ln lim_line
  · have h1 : b.1 ∈ ds := by rw [← zf]; exact List.mem_map.mpr ⟨b, hb, rfl⟩
    have h2 := depthAll_mem h1
    show X.A.units + 2 + b.1.depth < cLine
    omega
  · obtain ⟨l2, r2⟩ := of_itR eo
    rw [sort_fst, zf] at l2
    obtain ⟨c, hc⟩ := sortedAll_at s.heap its out.toArray
    have hn : H (s.heap.objs.size + 1) = none := I.hok.fresh (Nat.le_succ _)
    have hlen : out.length ≤ sizeLine := by
      rw [ho, List.length_zip, ← l.length, Nat.min_self]
      exact Nat.le_trans ln lim_line
    exact ⟨.ref (s.heap.objs.size + 1), _, I.laid (t' := s.toks) (o := .lst ((List.mergeSort (ds.zip vs) (dataLe false fun z => z.1)).map (·.2))) (fun b u e => sortedAll_old e) (Nat.le_succ _) ⟨by rw [r2.length]; exact hlen, out, c, r2, hc⟩, rfl, k.newFr sF hn (.lst upd_same l2)⟩
/-! what is walked: a dict's keys, its values -/
theorem sorted_src {P : Program} {w : World} {A : Around} {E : Value → Shared → Prop} {T : String} {r d : Addr} {n : Nat} {R : Nat → Value → Prop} {OK : Heap → Prop} {Q : Value → Shared → Prop} (K : KdlSrc P w T r d n R OK) (hh : A.handled = none) (hok : OK s.heap) (hn : n ≤ sizeLine)
    (h : ∀ (h' : Heap) (tk : Nat) (us : List Value), (∀ b o, s.heap.get? b = some o → h'.get? b = some o) → us.length = n → (∀ (j : Nat) (v : Value), us[j]? = some v → R j v) →
      wpAny (model P w) A.in1 (call (.builtin "list.sort") [.ref h'.objs.size]) (fun _ s' => Q (.ref h'.objs.size) s') E { s with heap := h'.push (seqObj "list" us.toArray 0), toks := tk }) :
    wpAny (model P w) A (call (.builtin "sorted") [.ref r]) Q E s := by
  refine Calls.call_function_entry kind_sorted plain_sorted entry_sorted (args_sorted1 _) ?_
  unfold Builtin.«sorted»
  refine wpAny_bind (m := checkCount "sorted" 1 1 _) (wpAny_pure ?_)
  refine wpAny_bind (kdu_collect (A := A.in1) K hh hok hn fun h' tk acc hk hacc => ?_)
  have hl : acc.toList.length = n := by rw [Array.length_toList]; exact hacc.1
  refine wpAny_bind (wpAny_newList ?_ (by rw [hl]; exact hn))
  refine wpAny_bind (wpAny_holding (wpAny_mono (h h' tk acc.toList hk hl fun j v e => hacc.2 j v (by rw [← Array.getElem?_toList]; exact e)) (fun _ s' x => ?_) fun _ _ e => e))
  exact wpAny_pure ⟨_, rfl, x⟩
theorem sorted_src_run (hr : X.A.units + 64 < cLine) (hh : X.A.handled = none) (I : L2.Inv X pins σ H s) (sF : Same F H) {T : String} {r d : Addr} {n : Nat} {R : Nat → Value → Prop} {OK : Heap → Prop} {ds : List D} {vs : List V} {Q : VK} (K : KdlSrc X.prog X.w T r d n R OK) (hok : OK s.heap)
    (hn : n = ds.length) (hR : ∀ us : List Value, us.length = n → (∀ j v, us[j]? = some v → R j v) → L2.Vals vs us) (l : AtL (pmOf X cls) F ds vs) (ok : sortOk ds = true)
    (k : OpV (pmOf X cls) F H (.fr (.list (sortD ds))) Q) : wpAny (model X.prog X.w) X.A (call (.builtin "sorted") [.ref r]) (EP X pins σ Q) X.xe s := by
  obtain ⟨al, so, cl, dp, ln⟩ := sortOk_some ok
  have ln' : ds.length ≤ sizeLine := Nat.le_trans ln lim_line
  refine sorted_src K hh hok (by rw [hn]; exact ln') fun h' tk us hk hl hv => ?_
  have rv := hR us hl hv
  have zf := zip_fst l
  have e1 := itR_of l rv
  -- the state with the collected list, untracked
  have I1 : L2.Inv X pins σ H { s with heap := h'.push (seqObj "list" us.toArray 0), toks := tk } := I.kept fun b o e => Heap.get?_push_of_some _ (hk b o e)
  have er : EachIs (fun v b => ∃ as, Reads (h'.push (seqObj "list" us.toArray 0)) v ((fun z : D × V => z.1) b) as ∧ h'.objs.size ∉ as) us (ds.zip vs) := by
    have e2 := itR_reads I sF e1 (by rw [zf]; exact cl)
    refine e2.mono fun v b ⟨as, q⟩ => ⟨as, PyProof.Rows.Reads.keeps (fun b o e => Heap.get?_push_of_some _ (hk b o e)) q, fun hm => ?_⟩
    obtain ⟨o, ho⟩ := reads_there q hm
    exact absurd (Heap.lt_size (hk _ _ ho)) (Nat.lt_irrefl _)
  refine list_sort_data (enc := fun z : D × V => z.1) (a := h'.objs.size) (Heap.get?_push_size _ rfl) e1 er (by rw [zf]; exact al) (by rw [zf]; exact so) ?_ (fun b hb => ?_) fun out ho eo => ?_
  · rw [List.length_zip, ← l.length, Nat.min_self]
    exact ln'
  · have h1 : b.1 ∈ ds := by rw [← zf]; exact List.mem_map.mpr ⟨b, hb, rfl⟩
    have h2 := depthAll_mem h1
    show X.A.units + 1 + 1 + b.1.depth < cLine
    omega
  · obtain ⟨l2, r2⟩ := of_itR eo
    rw [sort_fst, zf] at l2
    obtain ⟨c, hc⟩ := sortedHeap_at (h := h'.push (seqObj "list" us.toArray 0)) (a := h'.objs.size) (vs := us) (n := 0) (out := out.toArray) (Heap.get?_push_size _ rfl)
    have I0 : L2.Inv X pins σ H { s with heap := h', toks := tk } := I.kept fun b o e => hk b o e
    have hn : H h'.objs.size = none := I0.hok.fresh (Nat.le_refl _)
    have hlen : out.length ≤ sizeLine := by
      rw [ho, List.length_zip, ← l.length, Nat.min_self]
      exact ln'
    refine ⟨.ref h'.objs.size, _, I0.laid (t' := tk) (o := .lst ((List.mergeSort (ds.zip vs) (dataLe false fun z => z.1)).map (·.2))) (fun b u e => ?_) (Nat.le_refl _) ⟨by rw [r2.length]; exact hlen, out, c, r2, hc⟩, rfl, k.newFr sF hn (.lst upd_same l2)⟩
    rw [sortedHeap_old (Nat.ne_of_lt (Heap.lt_size e)) (by rw [Heap.size_push]; exact Nat.lt_succ_of_lt (Heap.lt_size e))]
    exact Heap.get?_push_of_some _ e
end
end VL

set_option Elab.async false
set_option linter.all false
set_option maxRecDepth 100000
/-! V7: the built-ins' rules. -/
namespace VL
open PySem PySem.Spec PySem.W PyProof.Rows L2

theorem minD_mem : ∀ (ds : List D) (d : D), minD d ds ∈ d :: ds := by
  have key : ∀ (ds : List D) (d : D), ds.foldl (fun a y => if dataLt y a then y else a) d ∈ d :: ds := by
    intro ds
    induction ds with
    | nil => intro d; exact List.mem_cons_self
    | cons x xs ih =>
      intro d
      rw [List.foldl_cons]
      rcases List.mem_cons.mp (ih (if dataLt x d then x else d)) with h | h
      · rw [h]
        split
        · exact List.mem_cons_of_mem _ List.mem_cons_self
        · exact List.mem_cons_self
      · exact List.mem_cons_of_mem _ (List.mem_cons_of_mem _ h)
  exact key
theorem maxD_mem : ∀ (ds : List D) (d : D), maxD d ds ∈ d :: ds := by
  have key : ∀ (ds : List D) (d : D), ds.foldl (fun a y => if dataLt a y then y else a) d ∈ d :: ds := by
    intro ds
    induction ds with
    | nil => intro d; exact List.mem_cons_self
    | cons x xs ih =>
      intro d
      rw [List.foldl_cons]
      rcases List.mem_cons.mp (ih (if dataLt d x then x else d)) with h | h
      · rw [h]
        split
        · exact List.mem_cons_of_mem _ List.mem_cons_self
        · exact List.mem_cons_self
      · exact List.mem_cons_of_mem _ (List.mem_cons_of_mem _ h)
  exact key

theorem paired_of {α β : Type} {R : α → β → Prop} : ∀ {l₁ : List α} {l₂ : List β}, l₁.length = l₂.length → (∀ (i : Nat) x u, l₁[i]? = some x → l₂[i]? = some u → R x u) → Paired R l₁ l₂
  | [], [], _, _ => .nil
  | [], _ :: _, h, _ => by simp at h
  | _ :: _, [], h, _ => by simp at h
  | x :: l₁, u :: l₂, h, k => .cons (k 0 x u rfl rfl) (paired_of (by simpa using h) fun i y v h1 h2 => k (i + 1) y v (by simpa using h1) (by simpa using h2))
section
variable {X : Cx} {cls : Nat → Option (Addr × List Str)}
theorem readsAll_of {pins : List (Addr × Obj)} {σ : L2.St} {F H : Hp} {s : Shared} (I : L2.Inv X pins σ H s) (sF : Same F H) : ∀ {ds : List D} {vs : List V} {us : List Value}, AtL (pmOf X cls) F ds vs → PyData.canLayAll0 ds = true → L2.Vals vs us → ∃ as, ReadsAll s.heap us ds as
  | _, _, _, .nil, _, .nil => ⟨_, .nil⟩
  | _, _, _, .cons h t, c, .cons r rr => by
    rw [PyData.canLayAll0, Bool.and_eq_true] at c
    obtain ⟨as, h1⟩ := at_reads I sF h c.1 r
    obtain ⟨bs, h2⟩ := readsAll_of I sF t c.2 rr
    exact ⟨_, .cons h1 h2⟩
/-- the item that reads as one of the data -/
theorem pick {pins : List (Addr × Obj)} {σ : L2.St} {F H : Hp} {s s' : Shared} (I : L2.Inv X pins σ H s) (sF : Same F H) {ds : List D} {vs : List V} {us : List Value} {i : Nat} {v : Value} {m : D} {bs : List Addr} (l : AtL (pmOf X cls) F ds vs) (c : PyData.canLayAll0 ds = true)
    (r : L2.Vals vs us) (al : AlikeAll ds) (hv : us[i]? = some v) (hm : m ∈ ds) (q : Reads s'.heap v m bs) (k : ∀ b o, s.heap.get? b = some o → s'.heap.get? b = some o) : ∃ w, L2.RelV w v ∧ At (pmOf X cls) F m w := by
  cases e : vs[i]? with
  | none => rw [r.none_of e] at hv; cases hv
  | some w =>
    obtain ⟨u, h1, h2⟩ := r.get e
    rw [hv] at h1
    cases h1
    obtain ⟨d, h3, h4⟩ := l.get' e
    have hd : d ∈ ds := List.mem_of_getElem? h3
    obtain ⟨as, q2⟩ := at_reads I sF h4 (canAll_mem c d hd) h2
    have e2 := alike_unique d m v as bs (al.1 d hd m hm) (PyProof.Rows.Reads.keeps k q2) q
    subst e2
    exact ⟨w, h2, h4⟩
theorem fin_tok {pins : List (Addr × Obj)} {σ : L2.St} {H : Hp} {s : Shared} {Q : VK} {v : V} {u : Value} {h' : Heap} {t : Nat} (I : L2.Inv X pins σ H s) (k : ∀ b o, s.heap.get? b = some o → h'.get? b = some o) (r : L2.RelV v u) (q : Q v H) : EP X pins σ Q u { s with heap := h', toks := t } := ⟨v, H, I.kept k, r, q⟩

theorem opr_len : CallR X (.builtin "len") (rCall (pmOf X cls) .len) := by
  intro pins s σ H vs us Q I r ⟨F, ds, rv, sF, hp, e, k⟩
  simp only [biD] at e
  unfold lenB at e
  split at e <;> (try cases e)
  · obtain ⟨v, rfl, h⟩ := hp.one
    obtain ⟨a, ws, rfl, ha, la⟩ := h.lst sF
    refine call_len_seq pins s σ H _ us Q I r ⟨a, ws, rfl, .inl (.of ha), ?_⟩
    rw [← la.length]
    exact k.pure sF (.int _)
  · obtain ⟨v, rfl, h⟩ := hp.one
    obtain ⟨a, ws, rfl, ha, la, _⟩ := h.tup sF
    refine call_len_seq pins s σ H _ us Q I r ⟨a, ws, rfl, .inr ha, ?_⟩
    rw [← la.length]
    exact k.pure sF (.int _)
  · rename_i ds
    obtain ⟨v, rfl, h⟩ := hp.one
    have sc : ∃ (a : Addr) (ns : List Int), v = .ref a ∧ ds = ns.map .int ∧ SqL X.K H a (ns.map V.int) := by
      rcases h with h | ⟨q, h⟩
      · cases h with
        | dct h n _ => cases n
        | scr h => exact ⟨_, _, rfl, rfl, sF.sqL h⟩
        | ins h c z n l => exact absurd rfl z
      · cases h with
        | dct h n _ => cases n
        | ins z h c n l => exact absurd rfl z.2
    obtain ⟨a, ns, rfl, rfl, ha⟩ := sc
    refine call_len_seq pins s σ H _ us Q I r ⟨a, _, rfl, .inl ha, ?_⟩
    rw [List.length_map]
    rw [List.length_map] at k
    exact k.pure sF (.int _)
  · split at e
    · rename_i n
      cases e
      obtain ⟨v, rfl, h⟩ := hp.one
      obtain ⟨a, xs, ep, rfl, ha, ak⟩ := h.dct sF n
      obtain ⟨h1, h2, h3⟩ := dct_at I sF ha ak
      obtain ⟨u, rfl, ru⟩ := vals1 r
      cases ru
      rw [ak.length] at k
      have hs := sizeLine_eq
      exact call_len_dictH h1 h3 (by omega) ⟨.int _, H, I.tok _, ⟨_, rfl⟩, k.pure sF (.int _)⟩
    · cases e
theorem opr_abs : CallR X (.builtin "abs") (rCall (pmOf X cls) .abs) := by
  intro pins s σ H vs us Q I r ⟨F, ds, rv, sF, hp, e, k⟩
  simp only [biD] at e
  unfold absB at e
  split at e <;> (try cases e)
  obtain ⟨v, rfl, h⟩ := hp.one
  exact call_abs pins s σ H _ us Q I r ⟨_, by rw [h.int], k.pure sF (.int _)⟩
theorem opr_int : CallR X (.type "int") (rCall (pmOf X cls) .int) := by
  intro pins s σ H vs us Q I r ⟨F, ds, rv, sF, hp, e, k⟩
  simp only [biD] at e
  unfold intB at e
  split at e <;> (try cases e)
  · obtain ⟨v, rfl, h⟩ := hp.one
    exact call_int1 pins s σ H _ us Q I r (.inl ⟨_, by rw [h.int], k.pure sF (.int _)⟩)
  · obtain ⟨v, rfl, h⟩ := hp.one
    exact call_int1 pins s σ H _ us Q I r (.inr ⟨_, by rw [h.bl], k.pure sF (.int _)⟩)
theorem opr_tuple : CallR X (.type "tuple") (rCall (pmOf X cls) .tuple) := by
  intro pins s σ H vs us Q I r ⟨F, ds, rv, sF, hp, e, k⟩
  simp only [biD] at e
  unfold tupleB at e
  split at e <;> (try cases e)
  · obtain ⟨v, rfl, h⟩ := hp.one
    obtain ⟨a, ws, rfl, ha, la⟩ := h.lst sF
    exact call_tuple_of pins s σ H _ us Q I r ⟨a, ws, rfl, .inl ⟨.of ha, fun q n => k.newSh sF n (.tup (.of upd_same) (la.mono (same_upd (sF.none n))))⟩⟩
  · obtain ⟨v, rfl, h⟩ := hp.one
    obtain ⟨a, ws, rfl, ha, la, fa⟩ := h.tup sF
    exact call_tuple_of pins s σ H _ us Q I r ⟨a, ws, rfl, .inr ⟨ha, k.pure sF (.tup fa la)⟩⟩
theorem opr_sum (hc : X.calm = true) : CallR X (.builtin "sum") (rCall (pmOf X cls) .sum) := by
  intro pins s σ H vs us Q I r ⟨F, ds, rv, sF, hp, e, k⟩
  simp only [biD] at e
  unfold sumB at e
  split at e <;> (try cases e)
  split at e <;> (try cases e)
  rename_i q
  obtain ⟨v, rfl, h⟩ := hp.one
  obtain ⟨a, ws, rfl, ha, la⟩ := h.lst sF
  rw [intsOf_some q] at la
  rw [la.vints] at ha
  exact cr_sum hc pins s σ H _ us Q I r ⟨a, _, rfl, .of ha, k.pure sF (.int _)⟩
theorem opr_all (hc : X.calm = true) : CallR X (.builtin "all") (rCall (pmOf X cls) .all) := by
  intro pins s σ H vs us Q I r ⟨F, ds, rv, sF, hp, e, k⟩
  simp only [biD] at e
  unfold allB at e
  split at e <;> (try cases e)
  split at e <;> (try cases e)
  rename_i q
  obtain ⟨v, rfl, h⟩ := hp.one
  obtain ⟨a, ws, rfl, ha, la⟩ := h.lst sF
  rw [boolsOf_some q] at la
  rw [la.vbools] at ha
  exact cr_all hc pins s σ H _ us Q I r ⟨a, _, rfl, .of ha, k.pure sF (.bl _)⟩
theorem opr_any (hc : X.calm = true) : CallR X (.builtin "any") (rCall (pmOf X cls) .any) := by
  intro pins s σ H vs us Q I r ⟨F, ds, rv, sF, hp, e, k⟩
  simp only [biD] at e
  unfold anyB at e
  split at e <;> (try cases e)
  split at e <;> (try cases e)
  rename_i q
  obtain ⟨v, rfl, h⟩ := hp.one
  obtain ⟨a, ws, rfl, ha, la⟩ := h.lst sF
  rw [boolsOf_some q] at la
  rw [la.vbools] at ha
  exact cr_any hc pins s σ H _ us Q I r ⟨a, _, rfl, .of ha, k.pure sF (.bl _)⟩
theorem opr_min (hr : X.A.units + 64 < cLine) (hc : X.calm = true) : CallR X (.builtin "min") (rCall (pmOf X cls) .min) := by
  intro pins s σ H vs us Q I r ⟨F, ds, rv, sF, hp, e, k⟩
  simp only [biD] at e
  unfold minB at e
  split at e <;> (try cases e)
  · split at e <;> (try cases e)
    rename_i d ds ok
    obtain ⟨al, cl, dp⟩ := cmpOk_some ok
    obtain ⟨v, rfl, h⟩ := hp.one
    obtain ⟨a, ws, rfl, ha, la⟩ := h.lst sF
    obtain ⟨u, rfl, ru⟩ := vals1 r
    cases ru
    obtain ⟨its, rv, hl, hz⟩ := I.list (.of ha)
    obtain ⟨as, ra⟩ := readsAll_of I sF la cl rv
    refine min_list_data (I.ok.hd hc) hl.isList (as := as) (by simpa using ra) al (by omega) fun i v h' tk bs hv q kp => ?_
    obtain ⟨w', h1, h2⟩ := pick (s' := { s with heap := h' }) I sF la cl rv al (by simpa using hv) (minD_mem ds d) q kp
    exact fin_tok I kp h1 (k.pure sF h2)
  · obtain ⟨v, w', rfl, h, h'⟩ := hp.two
    exact call_min2 hc pins s σ H _ us Q I r ⟨_, _, by rw [h.int, h'.int], k.pure sF (.int _)⟩
theorem opr_max (hr : X.A.units + 64 < cLine) (hc : X.calm = true) : CallR X (.builtin "max") (rCall (pmOf X cls) .max) := by
  intro pins s σ H vs us Q I r ⟨F, ds, rv, sF, hp, e, k⟩
  simp only [biD] at e
  unfold maxB at e
  split at e <;> (try cases e)
  · split at e <;> (try cases e)
    rename_i d ds ok
    obtain ⟨al, cl, dp⟩ := cmpOk_some ok
    obtain ⟨v, rfl, h⟩ := hp.one
    obtain ⟨a, ws, rfl, ha, la⟩ := h.lst sF
    obtain ⟨u, rfl, ru⟩ := vals1 r
    cases ru
    obtain ⟨its, rv, hl, hz⟩ := I.list (.of ha)
    obtain ⟨as, ra⟩ := readsAll_of I sF la cl rv
    refine max_list_data (I.ok.hd hc) hl.isList (as := as) (by simpa using ra) al (by omega) fun i v h' tk bs hv q kp => ?_
    obtain ⟨w', h1, h2⟩ := pick (s' := { s with heap := h' }) I sF la cl rv al (by simpa using hv) (maxD_mem ds d) q kp
    exact fin_tok I kp h1 (k.pure sF h2)
  · obtain ⟨v, w', rfl, h, h'⟩ := hp.two
    exact call_max2 hc pins s σ H _ us Q I r ⟨_, _, by rw [h.int, h'.int], k.pure sF (.int _)⟩
/-- a dict's entries as they stand -/
theorem dct_raw {pins : List (Addr × Obj)} {σ : L2.St} {H : Hp} {s : Shared} (I : L2.Inv X pins σ H s) {a : Addr} {xs : List (NestedKey × Addr × Value)} {ep : Nat} (h : H a = some (dO X.prog X.w a xs ep)) :
    ∃ es, (a == sysModules) = false ∧ xs.length ≤ sizeLine ∧ s.heap.DictRaw a es ep ∧ es.toList = xs.map (entryOfKey (nestedKind X.prog X.w)) := by
  obtain ⟨⟨h1, h2, h3, o, es, h4, h5, h6, h7⟩, _⟩ := I.hok a _ h
  exact ⟨es, h1, h2, ⟨o, h4, h5, h6⟩, h7⟩
theorem ent_key {P : Program} {w : World} {es : Array DictEntry} {xs : List (NestedKey × Addr × Value)} (e : es.toList = xs.map (entryOfKey (nestedKind P w))) : ∀ us : List Value, us.length = es.size → (∀ j v, us[j]? = some v → ∃ h : j < es.size, v = es[j].key) → L2.Vals (xs.map fun x => .ref x.2.1) us := by
  have hs : es.size = xs.length := by rw [← Array.length_toList, e, List.length_map]
  have at_ : ∀ j (h : j < es.size) (h2 : j < xs.length), es[j] = entryOfKey (nestedKind P w) xs[j] := fun j h h2 => by
    have : es.toList[j]? = (xs.map (entryOfKey (nestedKind P w)))[j]? := by rw [e]
    rw [List.getElem?_map, List.getElem?_eq_getElem h2, Array.getElem?_toList, Array.getElem?_eq_getElem h] at this
    exact Option.some.inj this
  intro us hl hv
  refine paired_of (by rw [List.length_map, hl, hs]) fun i x u h1 h2 => ?_
  obtain ⟨h3, rfl⟩ := hv i u h2
  rw [List.getElem?_map] at h1
  have h4 : i < xs.length := by rw [← hs]; exact h3
  rw [List.getElem?_eq_getElem h4] at h1
  cases h1
  rw [at_ i h3 h4]
  rfl
theorem ent_val {P : Program} {w : World} {es : Array DictEntry} {xs : List (NestedKey × Addr × Value)} (e : es.toList = xs.map (entryOfKey (nestedKind P w))) {vs : List V} (r : L2.Vals vs (xs.map (·.2.2))) : ∀ us : List Value, us.length = es.size → (∀ j v, us[j]? = some v → ∃ h : j < es.size, v = es[j].val) → L2.Vals vs us := by
  have hs : es.size = xs.length := by rw [← Array.length_toList, e, List.length_map]
  intro us hl hv
  have : us = xs.map (·.2.2) := by
    refine List.ext_getElem? fun i => ?_
    by_cases hi : i < us.length
    · have h3 : i < es.size := by omega
      have h4 : i < xs.length := by omega
      obtain ⟨_, q⟩ := hv i us[i] (List.getElem?_eq_getElem hi)
      rw [List.getElem?_eq_getElem hi, List.getElem?_map, List.getElem?_eq_getElem h4, q]
      have : es.toList[i]? = (xs.map (entryOfKey (nestedKind P w)))[i]? := by rw [e]
      rw [List.getElem?_map, List.getElem?_eq_getElem h4, Array.getElem?_toList, Array.getElem?_eq_getElem h3] at this
      have e5 : es[i] = entryOfKey (nestedKind P w) xs[i] := Option.some.inj this
      rw [e5]
      rfl
    · rw [List.getElem?_eq_none (by omega), List.getElem?_eq_none (by rw [List.length_map]; omega)]
  rw [this]
  exact r
theorem opr_sorted (hr : X.A.units + 64 < cLine) (hc : X.calm = true) : CallR X (.builtin "sorted") (rCall (pmOf X cls) .sorted) := by
  intro pins s σ H vs us Q I r ⟨F, ds, rv, sF, hp, e, k⟩
  simp only [biD] at e
  unfold sortedB at e
  split at e <;> (try cases e)
  · split at e <;> (try cases e)
    rename_i ok
    obtain ⟨v, rfl, h⟩ := hp.one
    obtain ⟨a, ws, rfl, ha, la⟩ := h.lst sF
    obtain ⟨u, rfl, ru⟩ := vals1 r
    cases ru
    exact sorted_run hr I sF ha la ok k
  · split at e <;> (try cases e)
    rename_i q
    obtain ⟨v, rfl, h⟩ := hp.one
    obtain ⟨a, xs, ep, rfl, ha, ak⟩ := h.dct sF q.1
    obtain ⟨u, rfl, ru⟩ := vals1 r
    cases ru
    obtain ⟨es, h1, h2, h3, h4⟩ := dct_raw I ha
    have hs : es.size = xs.length := by rw [← Array.length_toList, h4, List.length_map]
    exact sorted_src_run hr (I.ok.hd hc) I sF (KdlSrc.rawDict (es := es) (ep := ep) h1) h3 (by rw [List.length_map, ak.length, hs]) (ent_key h4) ak.keys q.2 k
theorem opr_list (hc : X.calm = true) : CallR X (.type "list") (rCall (pmOf X cls) .list) := by
  intro pins s σ H vs us Q I r ⟨F, ds, rv, sF, hp, e, k⟩
  simp only [biD] at e
  unfold listB at e
  split at e <;> (try cases e)
  · obtain ⟨v, rfl, h⟩ := hp.one
    obtain ⟨a, ws, rfl, ha, la⟩ := h.lst sF
    exact call_list_of pins s σ H _ us Q I r ⟨a, ws, rfl, .inl (.of ha), fun q n => k.newFr sF n (.lst upd_same la)⟩
  · obtain ⟨v, rfl, h⟩ := hp.one
    obtain ⟨a, ws, rfl, ha, la, fa⟩ := h.tup sF
    exact call_list_of pins s σ H _ us Q I r ⟨a, ws, rfl, .inr ha, fun q n => k.newFr sF n (.lst upd_same la)⟩
  · split at e <;> (try cases e)
    rename_i q
    obtain ⟨v, rfl, h⟩ := hp.one
    obtain ⟨a, xs, ep, rfl, ha, ak⟩ := h.dct sF q
    obtain ⟨u, rfl, ru⟩ := vals1 r
    cases ru
    obtain ⟨es, h1, h2, h3, h4⟩ := dct_raw I ha
    have hs : es.size = xs.length := by rw [← Array.length_toList, h4, List.length_map]
    refine kdl_call (KdlSrc.rawDict (es := es) (ep := ep) h1) (I.ok.hd hc) h3 (by rw [hs]; exact h2) fun h' tk acc' c' kp hn hacc => ?_
    have rvs := ent_key h4 acc'.toList (by rw [Array.length_toList]; exact hacc.1) fun j v e => hacc.2 j v (by rw [← Array.getElem?_toList]; exact e)
    refine ⟨.ref s.heap.objs.size, _, I.laid (t' := tk) (o := .lst (xs.map fun x => .ref x.2.1)) (fun b u e => kp b u e) (Nat.le_refl _) ⟨by rw [List.length_map]; exact h2, acc'.toList, c', rvs, by simpa using hn⟩, rfl, k.newFr sF (I.hok.fresh (Nat.le_refl _)) (.lst upd_same ak.keys)⟩
end
end VL

set_option Elab.async false
set_option linter.all false
set_option maxRecDepth 100000
/-! V8: rules for expressions. -/
namespace VL
open PySem PySem.Spec PySem.W PyProof.Rows L2

/-! ### one operand -/
def rUn (p : Pm) (g : D → Option Rv) : V → Hp → VK → Prop := fun x H Q => ∃ F dx rv, Same F H ∧ AtH p F H dx x ∧ g dx = some rv ∧ OpV p F H rv Q
theorem seq1 {p : Pm} {P : Pr} (ok : POk p) {fa : FE} {g : D → Option Rv} {σ : L2.St} {H : Hp} {Q : VK} (h : tE p P (fUn fa g) σ H Q) : tUn (rUn p g) (tE p P fa) σ H Q := by
  obtain ⟨F, ρ, fp, R, h⟩ := h
  unfold fUn at h
  simp only [wpR_bind, wpR_lift, wpR_pure] at h
  refine tE.go Ext.refl R h fun x g1 F1 H1 fp1 v E1 _ R1 V1 => ?_
  obtain ⟨a, h3, y, h4, r, h5, k⟩ := g1
  obtain ⟨F1', m1, R1', S1, _⟩ := op_ok ok R1 V1 h3
  exact ⟨F1', y, r, R1'.sub, get_ok R1' S1 h4, h5, opV_of (m1 (fun _ h => h) E1) R1' k⟩
section
variable {X : Cx} {cls : Nat → Option (Addr × List Str)} {P : Pr} {a b c e : Expr} {fa fb fc : FE} {pos : Pos}
theorem e_var {i : Nat} {x : Str} (hN : X.N[i]? = some x) (hv : Vis X.env.scope x) (hd : (x == ("__debug__" : Str)) = false) (hcd : (x == ("__classdict__" : Str)) = false) : PE X (.Name x pos) (tE (pmOf X cls) P (fVar i)) := by
  refine (pe_var hN hv hd hcd).weak fun σ H Q ⟨F, ρ, fp, R, h⟩ => ?_
  unfold fVar at h
  split at h
  · rename_i d hi
    obtain ⟨v, h1, h2⟩ := R.sh _ _ hi
    exact ⟨v, h1, h F H fp v Ext.refl R h2⟩
  · rename_i d hi
    obtain ⟨v, h1, h2, h3⟩ := R.ow _ _ hi
    exact ⟨v, h1, h F H fp v Ext.refl R h1⟩
  · exact h.elim
theorem e_c {v : V} {d : D} (h : PE X e (tC v)) (hv : ∀ F, At (pmOf X cls) F d v) : PE X e (tE (pmOf X cls) P (fC d)) :=
  h.weak fun σ H Q ⟨F, ρ, fp, R, k⟩ => k F H fp v Ext.refl R (hv F)
theorem opr_neg : UnR X (unaryOp .USub) (rUn (pmOf X cls) negD) := by
  intro pins s σ H x v Q I rx ⟨F, dx, rv, sF, hx, e, k⟩
  unfold negD at e
  split at e <;> (try cases e)
  exact un_neg pins s σ H _ _ Q I rx ⟨_, hx.int, k.pure sF (.int _)⟩
theorem e_neg (ok : POk (pmOf X cls)) (ha : PE X a (tE (pmOf X cls) P fa)) : PE X (.UnaryOp .USub a pos) (tE (pmOf X cls) P (fUn fa negD)) :=
  (pe_un opr_neg ha).weak fun _ _ _ h => seq1 ok h
theorem e_bin (op : MOp) (ok : POk (pmOf X cls)) (ha : PE X a (tE (pmOf X cls) P fa)) (hb : PE X b (tE (pmOf X cls) P fb)) : PE X (.BinOp a (opOf op) b pos) (tE (pmOf X cls) P (fBin fa fb (binD op))) :=
  (pe_op (opr_bin op) ha hb).weak fun _ _ _ h => seq2 ok h
theorem rC_of {p : Pm} {op : COp} {x y : V} {H : Hp} {Q : VK} (h : rB p (cmpR op) x y H Q) : rC p op x y H Q := by
  obtain ⟨F, dx, dy, rv, s, h1, h2, h3, k⟩ := h
  unfold cmpR at h3
  cases e : cmpD op dx dy with
  | none => rw [e] at h3; cases h3
  | some b =>
    rw [e] at h3
    cases h3
    exact ⟨F, dx, dy, b, s, h1, h2, e, k.pure s (.bl b)⟩
theorem tOp_mono {r r' : R2} {ta tb : TE} {σ : L2.St} {H : Hp} {Q : VK} (hta : ∀ {Q Q' : VK}, (∀ v H, Q v H → Q' v H) → ∀ σ H, ta σ H Q → ta σ H Q') (htb : ∀ {Q Q' : VK}, (∀ v H, Q v H → Q' v H) → ∀ σ H, tb σ H Q → tb σ H Q')
    (h : tOp r ta tb σ H Q) (hr : ∀ x y H Q, r x y H Q → r' x y H Q) : tOp r' ta tb σ H Q := hta (fun v H1 h1 => htb (fun w H2 h2 => hr _ _ _ _ h2) _ _ h1) _ _ h
theorem tE_mono {p : Pm} {P : Pr} {f : FE} {Q Q' : VK} (hQ : ∀ v H, Q v H → Q' v H) (σ : L2.St) (H : Hp) (h : tE p P f σ H Q) : tE p P f σ H Q' := by
  obtain ⟨F, ρ, fp, R, h⟩ := h
  exact ⟨F, ρ, fp, R, wpR_mono h (fun _ e => e) fun x k F' H' fp' v E R V => hQ _ _ (k F' H' fp' v E R V)⟩
theorem seqC {p : Pm} {P : Pr} {op : COp} (ok : POk p) {fa fb : FE} {σ : L2.St} {H : Hp} {Q : VK} (h : tE p P (fBin fa fb (cmpR op)) σ H Q) : tOp (rC p op) (tE p P fa) (tE p P fb) σ H Q :=
  tOp_mono (fun hQ σ H => tE_mono hQ σ H) (fun hQ σ H => tE_mono hQ σ H) (seq2 ok h) fun _ _ _ _ => rC_of
/-- a test of a value -/
theorem test_of {p : Pm} {P : Pr} {f : FE} {σ : L2.St} {H : Hp} {Q : Bool → Hp → Prop} (h : tT p P (fTest f) σ H Q) : tE p P f σ H fun x H' => ∃ k, x = .bl k ∧ Q k H' := by
  obtain ⟨F, ρ, fp, R, h⟩ := h
  unfold fTest at h
  simp only [wpR_bind, wpR_lift, wpR_pure] at h
  refine ⟨F, ρ, fp, R, wpR_mono h (fun _ e => e) fun x ⟨b, hb, k⟩ F' H' fp' v E' R' V' => ?_⟩
  obtain ⟨r, ρ'⟩ := x
  unfold boolOf at hb
  split at hb
  · rename_i b' hr
    cases hb
    subst hr
    cases V'
    exact ⟨_, rfl, k F' H' fp' E' R'⟩
  · cases hb
theorem of_test {p : Pm} {P : Pr} {f : FE} {σ : L2.St} {H : Hp} {Q : Bool → Hp → Prop} (h : tT p P (fTest f) σ H Q) : tTest (tE p P f) σ H Q := test_of h
theorem e_cmp (op : COp) (ok : POk (pmOf X cls)) (hr : X.A.units + 64 < cLine) (ha : PE X a (tE (pmOf X cls) P fa)) (hb : PE X b (tE (pmOf X cls) P fb)) (hm : behindInMarks (cmpOf op) b = false) :
    PE X (.Compare a [cmpOf op] [b] pos) (tE (pmOf X cls) P (fBin fa fb (cmpR op))) ∧ PT X (.Compare a [cmpOf op] [b] pos) (tT (pmOf X cls) P (fTest (fBin fa fb (cmpR op)))) :=
  ⟨(pe_cmpR (opr_cmp hr op) ha hb hm).weak fun _ _ _ h => seqC ok h, (pt_cmpR (opr_cmp hr op) ha hb hm).weak fun _ _ _ h => seqC ok (test_of h)⟩
theorem seqCh {p : Pm} {P : Pr} {op op' : COp} (ok : POk p) {fa fb fc : FE} {σ : L2.St} {H : Hp} {Q : VK} (h : tE p P (fChain fa fb fc op op') σ H Q) : tChain (rC p op) (rC p op') (tE p P fa) (tE p P fb) (tE p P fc) σ H Q := by
  obtain ⟨F, ρ, fp, R, h⟩ := h
  unfold fChain at h
  simp only [wpR_bind, wpR_lift] at h
  refine tE.go Ext.refl R h fun x g1 F1 H1 fp1 v E1 _ R1 V1 => ?_
  obtain ⟨a, h3, g1⟩ := g1
  obtain ⟨F1', m1, R1', S1, _⟩ := op_ok ok R1 V1 h3
  have E1' := m1 (fun _ h => h) E1
  refine tE.go E1' R1' g1 fun y g2 F2 H2 fp2 w E2 Er R2 V2 => ?_
  obtain ⟨b, h4, c, h5, d, h6, r, h7, k⟩ := g2
  obtain ⟨F2', m2, R2', S2, s2⟩ := op_ok ok R2 V2 h4
  have E2' := m2 E1'.there E2
  refine ⟨F2', c, d, r, R2'.sub, get_ok R2' (S1.mono (Er.same.trans s2)) h5, get_ok R2' S2 h6, h7, r, rfl, ?_⟩
  cases r with
  | false => exact k F2' H2 fp2 _ E2' R2' (.bl false)
  | true =>
    simp only [if_true, wpR_bind, wpR_lift] at k ⊢
    refine tE.go E2' R2' k fun z g3 F3 H3 fp3 w3 E3 Er3 R3 V3 => ?_
    obtain ⟨e, h8, d', h9, e', h10, r', h11, k⟩ := g3
    obtain ⟨F3', m3, R3', S3, s3⟩ := op_ok ok R3 V3 h8
    have E3' := m3 E2'.there E3
    exact ⟨F3', d', e', r', R3'.sub, get_ok R3' (S2.mono (Er3.same.trans s3)) h9, get_ok R3' S3 h10, h11, k F3' H3 fp3 _ E3' R3' (.bl r')⟩
theorem e_chain (op op' : COp) (ok : POk (pmOf X cls)) (hr : X.A.units + 64 < cLine) (ha : PE X a (tE (pmOf X cls) P fa)) (hb : PE X b (tE (pmOf X cls) P fb)) (hc : PE X c (tE (pmOf X cls) P fc)) (hm : lastMarks [cmpOf op, cmpOf op'] [b, c] = false) :
    PE X (.Compare a [cmpOf op, cmpOf op'] [b, c] pos) (tE (pmOf X cls) P (fChain fa fb fc op op')) ∧ PT X (.Compare a [cmpOf op, cmpOf op'] [b, c] pos) (tT (pmOf X cls) P (fTest (fChain fa fb fc op op'))) :=
  ⟨(pe_chain (opr_cmp hr op) (opr_cmp hr op') ha hb hc hm).weak fun _ _ _ h => seqCh ok h, (pt_chain (opr_cmp hr op) (opr_cmp hr op') ha hb hc hm).weak fun _ _ _ h => seqCh ok (test_of h)⟩
/-! ### and, or, not, if -/
theorem seqAnd {p : Pm} {P : Pr} {fa fb : FE} {σ : L2.St} {H : Hp} {Q : VK} (h : tE p P (fAnd fa fb) σ H Q) : tAndV (tE p P fa) (tE p P fb) σ H Q := by
  obtain ⟨F, ρ, fp, R, h⟩ := h
  unfold fAnd at h
  simp only [wpR_bind] at h
  refine test_of (Q := fun c H1 => if c = true then tE p P fb σ H1 Q else Q (.bl false) H1) (tT.go Ext.refl R h fun x g F1 H1 fp1 E1 _ R1 => ?_)
  obtain ⟨b, ρ1⟩ := x
  cases b with
  | false => exact g F1 H1 fp1 _ E1 R1 (.bl false)
  | true => exact tE.go E1 R1 g fun y k F2 H2 fp2 v E2 _ R2 V2 => k F2 H2 fp2 v E2 R2 (V2.back E1.there)
theorem seqOr {p : Pm} {P : Pr} {fa fb : FE} {σ : L2.St} {H : Hp} {Q : VK} (h : tE p P (fOr fa fb) σ H Q) : tOrV (tE p P fa) (tE p P fb) σ H Q := by
  obtain ⟨F, ρ, fp, R, h⟩ := h
  unfold fOr at h
  simp only [wpR_bind] at h
  refine test_of (Q := fun c H1 => if c = true then Q (.bl true) H1 else tE p P fb σ H1 Q) (tT.go Ext.refl R h fun x g F1 H1 fp1 E1 _ R1 => ?_)
  obtain ⟨b, ρ1⟩ := x
  cases b with
  | true => exact g F1 H1 fp1 _ E1 R1 (.bl true)
  | false => exact tE.go E1 R1 g fun y k F2 H2 fp2 v E2 _ R2 V2 => k F2 H2 fp2 v E2 R2 (V2.back E1.there)
theorem wpR_test {f : FE} {ρ : Ev} {E : D → Prop} {G : Bool × Ev → Prop} : wpR E G (fTest f ρ) ↔ wpR E (fun x => ∃ b, boolOf x.1 = some b ∧ G (b, x.2)) (f ρ) := by
  unfold fTest
  simp only [wpR_bind, wpR_lift, wpR_pure]
theorem seqAndT {p : Pm} {P : Pr} {fa fb : FE} {σ : L2.St} {H : Hp} {Q : Bool → Hp → Prop} (h : tT p P (fTest (fAnd fa fb)) σ H Q) : tAnd (tT p P (fTest fa)) (tT p P (fTest fb)) σ H Q := by
  obtain ⟨F, ρ, fp, R, h⟩ := h
  rw [wpR_test] at h
  unfold fAnd at h
  simp only [wpR_bind] at h
  refine tT.go Ext.refl R h fun x g F1 H1 fp1 E1 _ R1 => ?_
  obtain ⟨b, ρ1⟩ := x
  cases b with
  | false =>
    obtain ⟨b, e, k⟩ := g
    cases e
    exact k F1 H1 fp1 E1 R1
  | true => exact tT.go (f := fTest fb) (G := fun y => ∀ F' H' fp', Ext F H (Wn ρ fp) F' H' (Wn y.2 fp') → Rep p P F' H' y.2 σ fp' → Q y.1 H') E1 R1 (wpR_test.mpr g) fun y k F2 H2 fp2 E2 _ R2 => k F2 H2 fp2 E2 R2
theorem seqOrT {p : Pm} {P : Pr} {fa fb : FE} {σ : L2.St} {H : Hp} {Q : Bool → Hp → Prop} (h : tT p P (fTest (fOr fa fb)) σ H Q) : tOr (tT p P (fTest fa)) (tT p P (fTest fb)) σ H Q := by
  obtain ⟨F, ρ, fp, R, h⟩ := h
  rw [wpR_test] at h
  unfold fOr at h
  simp only [wpR_bind] at h
  refine tT.go Ext.refl R h fun x g F1 H1 fp1 E1 _ R1 => ?_
  obtain ⟨b, ρ1⟩ := x
  cases b with
  | true =>
    obtain ⟨b, e, k⟩ := g
    cases e
    exact k F1 H1 fp1 E1 R1
  | false => exact tT.go (f := fTest fb) (G := fun y => ∀ F' H' fp', Ext F H (Wn ρ fp) F' H' (Wn y.2 fp') → Rep p P F' H' y.2 σ fp' → Q y.1 H') E1 R1 (wpR_test.mpr g) fun y k F2 H2 fp2 E2 _ R2 => k F2 H2 fp2 E2 R2
theorem seqNot {p : Pm} {P : Pr} {fa : FE} {σ : L2.St} {H : Hp} {Q : VK} (h : tE p P (fNot fa) σ H Q) : tNotV (tE p P fa) σ H Q := by
  obtain ⟨F, ρ, fp, R, h⟩ := h
  unfold fNot at h
  simp only [wpR_bind] at h
  exact test_of (Q := fun c H1 => Q (.bl (!c)) H1) (tT.go Ext.refl R h fun x g F1 H1 fp1 E1 _ R1 => g F1 H1 fp1 _ E1 R1 (.bl _))
theorem seqNotT {p : Pm} {P : Pr} {fa : FE} {σ : L2.St} {H : Hp} {Q : Bool → Hp → Prop} (h : tT p P (fTest (fNot fa)) σ H Q) : tNot (tT p P (fTest fa)) σ H Q := by
  obtain ⟨F, ρ, fp, R, h⟩ := h
  rw [wpR_test] at h
  unfold fNot at h
  simp only [wpR_bind] at h
  refine tT.go Ext.refl R h fun x g F1 H1 fp1 E1 _ R1 => ?_
  obtain ⟨b, e, k⟩ := g
  cases e
  exact k F1 H1 fp1 E1 R1
theorem seqIte {p : Pm} {P : Pr} {fc fa fb : FE} {σ : L2.St} {H : Hp} {Q : VK} (h : tE p P (fIte fc fa fb) σ H Q) : tIf (tT p P (fTest fc)) (tE p P fa) (tE p P fb) σ H Q := by
  obtain ⟨F, ρ, fp, R, h⟩ := h
  unfold fIte at h
  simp only [wpR_bind] at h
  refine tT.go Ext.refl R h fun x g F1 H1 fp1 E1 _ R1 => ?_
  obtain ⟨b, ρ1⟩ := x
  cases b with
  | true => exact tE.go E1 R1 g fun y k F2 H2 fp2 v E2 _ R2 V2 => k F2 H2 fp2 v E2 R2 (V2.back E1.there)
  | false => exact tE.go E1 R1 g fun y k F2 H2 fp2 v E2 _ R2 V2 => k F2 H2 fp2 v E2 R2 (V2.back E1.there)
theorem e_ite (hc : PT X c (tT (pmOf X cls) P (fTest fc))) (ha : PE X a (tE (pmOf X cls) P fa)) (hb : PE X b (tE (pmOf X cls) P fb)) : PE X (.IfExp c a b pos) (tE (pmOf X cls) P (fIte fc fa fb)) :=
  (pe_ifExp hc ha hb).weak fun _ _ _ h => seqIte h
theorem e_not (ha : PE X a (tE (pmOf X cls) P fa)) : PE X (.UnaryOp .Not a pos) (tE (pmOf X cls) P (fNot fa)) := (pe_not ha).weak fun _ _ _ h => seqNot h
theorem t_not (ha : PT X a (tT (pmOf X cls) P (fTest fa))) : PT X (.UnaryOp .Not a pos) (tT (pmOf X cls) P (fTest (fNot fa))) := (pt_not ha).weak fun _ _ _ h => seqNotT h
theorem t_val (ha : PE X e (tE (pmOf X cls) P fa)) (he : ∀ whole, isTrue e X.env whole = (do let v ← whole; standAt e.pos; holding [v] (truthy v))) : PT X e (tT (pmOf X cls) P (fTest fa)) :=
  (pt_val ha he).weak fun _ _ _ h => test_of h
/-! ### lists of expressions -/
theorem fz_go {p : Pm} {P : Pr} (ok : POk p) {F0 H0 F H : Hp} {W0 : Addr → Prop} {ρ : Ev} {σ : L2.St} {fp : Nat → List Addr} {f : FE} {G : D × Ev → Prop} {Q : VK} (E : Ext F0 H0 W0 F H (Wn ρ fp)) (R : Rep p P F H ρ σ fp) (h : wpR (Exc P F0 H0 W0) G (fFz f ρ))
    (k : ∀ x, G x → ∀ F' H' fp' v, Ext F0 H0 W0 F' H' (Wn x.2 fp') → Ext F H (Wn ρ fp) F' H' (Wn x.2 fp') → Rep p P F' H' x.2 σ fp' → At p F' x.1 v → Q v H') : tE p P f σ H Q := by
  unfold fFz at h
  simp only [wpR_bind, wpR_lift, wpR_pure] at h
  refine tE.go E R h fun x ⟨y, hy, g⟩ F' H' fp' v E' Er R' V' => ?_
  obtain ⟨F2, m2, R2, A2, s⟩ := fz_ok ok R' V' hy
  exact k y g F2 H' fp' v (m2 E.there E') (m2 (fun _ h => h) Er) R2 A2
end
end VL

set_option Elab.async false
set_option linter.all false
set_option maxRecDepth 100000
/-! V9: lists of expressions, displays, calls. -/
namespace VL
open PySem PySem.Spec PySem.W PyProof.Rows L2 StX

def tR (p : Pm) (P : Pr) (f : FR) : TA := fun σ H Q => ∃ F ρ fp, Rep p P F H ρ σ fp ∧ wpR (Exc P F H (Wn ρ fp)) (fun x =>
  ∀ F' H' fp' vs, Ext F H (Wn ρ fp) F' H' (Wn x.2 fp') → Rep p P F' H' x.2 σ fp' → Paired (Still p F' σ) x.1 vs → Q vs H') (f ρ)
section
variable {p : Pm} {P : Pr} {F0 H0 F H F' : Hp} {W0 : Addr → Prop} {ρ : Ev} {σ : L2.St} {fp : Nat → List Addr} {a : Addr} {o : HO} {Q : List V → Hp → Prop}
theorem tR.go {f : FR} {G : List Rv × Ev → Prop} (E : Ext F0 H0 W0 F H (Wn ρ fp)) (R : Rep p P F H ρ σ fp) (h : wpR (Exc P F0 H0 W0) G (f ρ))
    (k : ∀ x, G x → ∀ F' H' fp' vs, Ext F0 H0 W0 F' H' (Wn x.2 fp') → Ext F H (Wn ρ fp) F' H' (Wn x.2 fp') → Rep p P F' H' x.2 σ fp' → Paired (Still p F' σ) x.1 vs → Q vs H') : tR p P f σ H Q :=
  ⟨F, ρ, fp, R, wpR_mono h (fun _ e => e.ext E) fun x g F' H' fp' v E' R' x' => k x g F' H' fp' v (E.trans E') E' R' x'⟩
theorem seqNil (h : tA p P fNil σ H Q) : tNil σ H Q := by
  obtain ⟨F, ρ, fp, R, h⟩ := h
  exact h F H fp _ Ext.refl R .nil
theorem seqCons (ok : POk p) {fa : FE} {fr : FA} (h : tA p P (fCons fa fr) σ H Q) : tCons (tE p P fa) (tA p P fr) σ H Q := by
  obtain ⟨F, ρ, fp, R, h⟩ := h
  unfold fCons at h
  simp only [wpR_bind, wpR_pure] at h
  refine fz_go ok Ext.refl R h fun x g F1 H1 fp1 v E1 _ R1 A1 => ?_
  refine tA.go E1 R1 g fun y k F2 H2 fp2 vs E2 Er R2 A2 => ?_
  exact k F2 H2 fp2 _ E2 R2 (.cons (A1.mono Er.same) A2)
theorem seqStar (ok : POk p) {fa : FE} {fr : FA} (h : tA p P (fStar fa fr) σ H Q) : tStar p.K (tE p P fa) (tA p P fr) σ H Q := by
  obtain ⟨F, ρ, fp, R, h⟩ := h
  unfold fStar at h
  simp only [wpR_bind, wpR_pure, wpR_lift] at h
  refine fz_go ok Ext.refl R h fun x ⟨xs, hx, g⟩ F1 H1 fp1 v E1 _ R1 A1 => ?_
  have key : ∃ q vs, v = V.ref q ∧ (SqT p.K H1 q vs ∨ SqL p.K H1 q vs) ∧ AtL p F1 xs vs := by
    unfold seqOf at hx
    split at hx
    · rename_i e
      cases hx
      rw [e] at A1
      cases A1 with
      | lst h l => exact ⟨_, _, rfl, .inr (.inl (.of (R1.sub _ _ h))), l⟩
    · rename_i e
      cases hx
      rw [e] at A1
      cases A1 with
      | tup h l => exact ⟨_, _, rfl, .inl (R1.sub.sqT h), l⟩
    · cases hx
  obtain ⟨q, vs, e1, e2, l⟩ := key
  refine ⟨q, vs, e1, e2, tA.go E1 R1 g fun y k F2 H2 fp2 ws E2 Er R2 A2 => ?_⟩
  exact k F2 H2 fp2 _ E2 R2 ((l.mono Er.same).append A2)
theorem seqONil (h : tR p P oNil σ H Q) : tNil σ H Q := by
  obtain ⟨F, ρ, fp, R, h⟩ := h
  exact h F H fp _ Ext.refl R .nil
theorem stills_mono (s : Same F F') : ∀ {rs : List Rv} {vs : List V}, Paired (Still p F σ) rs vs → Paired (Still p F' σ) rs vs
  | _, _, .nil => .nil
  | _, _, .cons h t => .cons (h.mono s) (stills_mono s t)
theorem seqOCons (ok : POk p) {fa : FE} {fr : FR} (h : tR p P (oCons fa fr) σ H Q) : tCons (tE p P fa) (tR p P fr) σ H Q := by
  obtain ⟨F, ρ, fp, R, h⟩ := h
  unfold oCons at h
  simp only [wpR_bind, wpR_pure, wpR_lift] at h
  refine tE.go Ext.refl R h fun x g F1 H1 fp1 v E1 _ R1 V1 => ?_
  obtain ⟨r, hr, g⟩ := g
  obtain ⟨F1', m1, R1', S1, _⟩ := op_ok ok R1 V1 hr
  have E1' := m1 (fun _ h => h) E1
  refine tR.go E1' R1' g fun y k F2 H2 fp2 vs E2 Er R2 A2 => ?_
  exact k F2 H2 fp2 _ E2 R2 (.cons (S1.mono Er.same) A2)
theorem seqMCons (ok : POk p) {fa : FE} {fr : FR} (h : tR p P (mCons fa fr) σ H Q) : tCons (tE p P fa) (tR p P fr) σ H Q := by
  obtain ⟨F, ρ, fp, R, h⟩ := h
  unfold mCons at h
  simp only [wpR_bind, wpR_pure, wpR_lift] at h
  refine fz_go ok Ext.refl R h fun x g F1 H1 fp1 v E1 _ R1 A1 => ?_
  refine tR.go E1 R1 g fun y k F2 H2 fp2 vs E2 Er R2 A2 => ?_
  exact k F2 H2 fp2 _ E2 R2 (.cons (show At p F2 _ _ from A1.mono Er.same) A2)
theorem seqMOwn {fa : FE} {fr : FR} (h : tR p P (mOwn fa fr) σ H Q) : tCons (tE p P fa) (tR p P fr) σ H Q := by
  obtain ⟨F, ρ, fp, R, h⟩ := h
  unfold mOwn at h
  simp only [wpR_bind] at h
  refine tE.go Ext.refl R h fun x g F1 H1 fp1 v E1 _ R1 V1 => ?_
  obtain ⟨r, ρ1⟩ := x
  cases r with
  | sh d => exact g.elim
  | fr d => exact g.elim
  | ow i =>
    simp only [wpR_bind, wpR_pure] at g
    refine tR.go E1 R1 g fun y k F2 H2 fp2 vs E2 Er R2 A2 => ?_
    exact k F2 H2 fp2 _ E2 R2 (.cons (show σ[i]? = some (some v) from V1) A2)
/-- a new still object -/
theorem Rep.newSh (R : Rep p P F H ρ σ fp) (n : H a = none) : Ext F H (Wn ρ fp) (upd F a o) (upd H a o) (Wn ρ fp) ∧ Rep p P (upd F a o) (upd H a o) ρ σ fp :=
  ⟨(Nw.push n R.sub).ext, R.new (Nw.push n R.sub) (same_push R.sub)⟩
theorem Rep.newH (R : Rep p P F H ρ σ fp) (n : H a = none) : Ext F H (Wn ρ fp) F (upd H a o) (Wn ρ fp) ∧ Rep p P F (upd H a o) ρ σ fp ∧ F a = none ∧ ¬ Wn ρ fp a := by
  refine ⟨(Nw.pushH n).ext, R.new (Nw.pushH n) (R.sub.trans (same_upd n)), R.sub.none n, fun w => ?_⟩
  obtain ⟨_, u, hu⟩ := R.wn w
  rw [n] at hu
  cases hu
end
section
variable {X : Cx} {cls : Nat → Option (Addr × List Str)} {P : Pr} {e : Expr} {es : List Expr} {fa fb : FE} {fr : FA} {fo : FR} {pos pp : Pos}
theorem a_nil : PA X [] (tA (pmOf X cls) P fNil) := pa_nil.weak fun _ _ _ h => seqNil h
theorem a_cons (ok : POk (pmOf X cls)) (ha : PE X e (tE (pmOf X cls) P fa)) (hr : PA X es (tA (pmOf X cls) P fr)) (hs : starEach (e :: es) X.env = (false, eval e X.env) :: starEach es X.env) : PA X (e :: es) (tA (pmOf X cls) P (fCons fa fr)) :=
  (pa_cons ha hr hs).weak fun _ _ _ h => seqCons ok h
theorem a_star (ok : POk (pmOf X cls)) (ha : PE X e (tE (pmOf X cls) P fa)) (hr : PA X es (tA (pmOf X cls) P fr)) : PA X (.Starred e pp :: es) (tA (pmOf X cls) P (fStar fa fr)) :=
  (pa_star ha hr rfl).weak fun _ _ _ h => seqStar ok h
theorem o_nil : PA X [] (tR (pmOf X cls) P oNil) := pa_nil.weak fun _ _ _ h => seqONil h
theorem o_cons (ok : POk (pmOf X cls)) (ha : PE X e (tE (pmOf X cls) P fa)) (hr : PA X es (tR (pmOf X cls) P fo)) (hs : starEach (e :: es) X.env = (false, eval e X.env) :: starEach es X.env) : PA X (e :: es) (tR (pmOf X cls) P (oCons fa fo)) :=
  (pa_cons ha hr hs).weak fun _ _ _ h => seqOCons ok h
theorem m_cons (ok : POk (pmOf X cls)) (ha : PE X e (tE (pmOf X cls) P fa)) (hr : PA X es (tR (pmOf X cls) P fo)) (hs : starEach (e :: es) X.env = (false, eval e X.env) :: starEach es X.env) : PA X (e :: es) (tR (pmOf X cls) P (mCons fa fo)) :=
  (pa_cons ha hr hs).weak fun _ _ _ h => seqMCons ok h
theorem m_own (ha : PE X e (tE (pmOf X cls) P fa)) (hr : PA X es (tR (pmOf X cls) P fo)) (hs : starEach (e :: es) X.env = (false, eval e X.env) :: starEach es X.env) : PA X (e :: es) (tR (pmOf X cls) P (mOwn fa fo)) :=
  (pa_cons ha hr hs).weak fun _ _ _ h => seqMOwn h
theorem e_tup {k : Nat} (ha : PA X es (tA (pmOf X cls) P fr)) : PE X (.Tuple es k pos) (tE (pmOf X cls) P (fTup fr)) := by
  refine (pe_tup ha).weak fun σ H Q ⟨F, ρ, fp, R, h⟩ => ?_
  unfold fTup at h
  simp only [wpR_bind] at h
  refine tA.go Ext.refl R h fun x g F1 H1 fp1 vs E1 _ R1 A1 => ?_
  split at g
  · rename_i hl
    refine ⟨by rw [← A1.length]; exact Nat.le_trans hl lim_line, fun q hq => ?_⟩
    obtain ⟨E2, R2⟩ := R1.newSh (o := .tup vs) hq
    exact g _ _ fp1 _ (E1.trans E2) R2 (.tup (.of upd_same) (A1.mono E2.same))
  · exact g.elim
theorem e_lst (ha : PA X es (tA (pmOf X cls) P fr)) : PE X (.List es pos) (tE (pmOf X cls) P (fLst fr)) := by
  refine (pe_lst ha).weak fun σ H Q ⟨F, ρ, fp, R, h⟩ => ?_
  unfold fLst at h
  simp only [wpR_bind] at h
  refine tA.go Ext.refl R h fun x g F1 H1 fp1 vs E1 _ R1 A1 => ?_
  split at g
  · rename_i hl
    refine ⟨by rw [← A1.length]; exact Nat.le_trans hl lim_line, fun q hq => ?_⟩
    obtain ⟨E2, R2, nF, nW⟩ := R1.newH (o := .lst vs) hq
    exact g _ _ fp1 _ (E1.trans E2) R2 ⟨[q], .lst upd_same A1, fun b hb => by
      simp at hb
      subst hb
      exact ⟨nF, E1.back hq, nW⟩⟩
  · exact g.elim
/-! ### built-ins -/
theorem gets_ok {p : Pm} {F H : Hp} {ρ : Ev} {σ : L2.St} {fp : Nat → List Addr} (R : Rep p P F H ρ σ fp) : ∀ {rs : List Rv} {vs : List V} {ds : List D}, Paired (Still p F σ) rs vs → getsR ρ rs = some ds → Paired (AtH p F H) ds vs
  | _, _, _, .nil, e => by
    simp [getsR] at e
    subst e
    exact .nil
  | r :: rs, _, ds, .cons h t, e => by
    rw [getsR] at e
    split at e
    · rename_i d ds' h1 h2
      cases e
      exact .cons (get_ok R h h1) (gets_ok R t h2)
    · cases e
theorem seqBi {p : Pm} {b : BI} {σ : L2.St} {H : Hp} {Q : VK} (h : tE p P (fBi b fo) σ H Q) : tCB (rCall p b) (tR p P fo) σ H Q := by
  obtain ⟨F, ρ, fp, R, h⟩ := h
  unfold fBi at h
  simp only [wpR_bind, wpR_pure, wpR_lift] at h
  refine tR.go Ext.refl R h fun x ⟨ds, hd, r, hr, k⟩ F1 H1 fp1 vs E1 _ R1 A1 => ?_
  exact ⟨F1, ds, r, R1.sub, gets_ok R1 A1 hd, hr, opV_of E1 R1 k⟩
theorem e_biB {x : Str} {id : String} {b : BI} {p0 : Pos} (hc : CallR X (.builtin id) (rCall (pmOf X cls) b)) (hg : Gl X x) (hm : X.mg x = none) (hv : bootBuiltins x = some (.builtin id)) (ha : PA X (e :: es) (tR (pmOf X cls) P fo)) (hn : x ≠ "__name__") (hdb : (x == ("__debug__" : Str)) = false)
    (he : starEach (e :: es) X.env = (false, eval e X.env) :: starEach es X.env) (hpl : (backTo pos (starEach es X.env)).any (·.1) = false) : PE X (.Call (.Name x p0) (e :: es) [] pos) (tE (pmOf X cls) P (fBi b fo)) :=
  (pe_callB hc hg hm hv ha hn hdb he hpl).weak fun _ _ _ h => seqBi h
theorem e_biT {x : Str} {id : String} {b : BI} {p0 : Pos} (hc : CallR X (.type id) (rCall (pmOf X cls) b)) (hg : Gl X x) (hm : X.mg x = none) (hv : bootBuiltins x = some (.type id)) (ha : PA X (e :: es) (tR (pmOf X cls) P fo)) (hn : x ≠ "__name__") (hdb : (x == ("__debug__" : Str)) = false)
    (he : starEach (e :: es) X.env = (false, eval e X.env) :: starEach es X.env) (hpl : (backTo pos (starEach es X.env)).any (·.1) = false) : PE X (.Call (.Name x p0) (e :: es) [] pos) (tE (pmOf X cls) P (fBi b fo)) :=
  (pe_callTy hc hg hm hv ha hn hdb he hpl).weak fun _ _ _ h => seqBi h
end
end VL

set_option Elab.async false
set_option linter.all false
set_option maxRecDepth 100000
/-! V10: calls of defs, new instances, properties. -/
namespace VL
open PySem PySem.Spec PySem.W PyProof.Rows L2 StX

/-- the arguments at a def's entry: the owned ones at mp, fp their addresses -/
structure ArgsAt (p : Pm) (mp : List Nat) (F H : Hp) (ds : List D) (vs : List V) (fp : Nat → List Addr) : Prop where
  len : ds.length = vs.length
  sub : Same F H
  sh : ∀ i d, i ∉ mp → ds[i]? = some d → ∃ v, vs[i]? = some v ∧ At p F d v
  ow : ∀ i d, i ∈ mp → ds[i]? = some d → ∃ v, vs[i]? = some v ∧ Own p F H d v (fp i) ∧ ∀ a ∈ fp i, F a = none
  dj : ∀ i j, i ≠ j → i ∈ mp → j ∈ mp → ∀ a ∈ fp i, a ∉ fp j
def Wa (mp : List Nat) (fp : Nat → List Addr) (a : Addr) : Prop := ∃ i ∈ mp, a ∈ fp i
/-- what a def promises -/
def spV (p : Pm) (m : MFn) (n : Nat) : Sp := fun vs H Q E => vs.length = n ∧ ∃ F ds fp, (∀ i ∈ m.mp, i < n) ∧ m.mp.Nodup ∧ ArgsAt p m.mp F H ds vs fp ∧ wpR (fun _ => False) (fun r =>
  ∀ F' H' v, Ext F H (Wa m.mp fp) F' H' (Wa m.mp fp) → Same F' H' →
    (if m.fresh = true then ∃ q, Own p F' H' r.1 v q ∧ ∀ a ∈ q, F' a = none ∧ H a = none else At p F' r.1 v) →
    r.2.length = m.mp.length →
    (∀ (k i : Nat), m.mp[k]? = some i → ∃ d w, r.2[k]? = some d ∧ vs[i]? = some w ∧ Own p F' H' d w (fp i) ∧ ∀ a ∈ fp i, F' a = none) → Q v H') (m.run ds)

section
variable {p : Pm} {P : Pr} {F0 H0 F H F' H' : Hp} {W0 : Addr → Prop} {ρ ρ' : Ev} {σ : L2.St} {fp : Nat → List Addr}
/-! lists of slots -/
theorem mutSlots_get : ∀ {mp : List Nat} {rs : List Rv} {is : List Nat}, mutSlots mp rs = some is → is.length = mp.length ∧ is.Nodup ∧ ∀ (k j : Nat), mp[k]? = some j → ∃ i, is[k]? = some i ∧ rs[j]? = some (.ow i)
  | [], _, is, h => by
    simp [mutSlots] at h
    subst h
    exact ⟨rfl, List.nodup_nil, fun k j e => by simp at e⟩
  | j :: mp, rs, is, h => by
    rw [mutSlots] at h
    split at h
    · rename_i i hi
      split at h
      · rename_i is' h2
        split at h
        · cases h
        · rename_i hn
          cases h
          obtain ⟨h3, h4, h5⟩ := mutSlots_get h2
          refine ⟨by simp [h3], List.nodup_cons.mpr ⟨hn, h4⟩, fun k j' e => ?_⟩
          cases k with
          | zero =>
            simp at e
            subst e
            exact ⟨i, rfl, hi⟩
          | succ k =>
            simp at e
            obtain ⟨i', h6, h7⟩ := h5 k j' e
            exact ⟨i', by simpa using h6, h7⟩
      · cases h
    · cases h
theorem allOwn_get : ∀ {is : List Nat} {ρ : Ev}, allOwn is ρ = true → ∀ i ∈ is, ∃ d, ρ[i]? = some (.ow d)
  | [], _, _, i, h => by cases h
  | i :: is, ρ, h, j, hj => by
    rw [allOwn, Bool.and_eq_true] at h
    rcases List.mem_cons.mp hj with rfl | hj
    · have h1 := h.1
      split at h1
      · rename_i d e
        exact ⟨d, e⟩
      · cases h1
    · exact allOwn_get h.2 j hj
theorem putBack_get : ∀ {is : List Nat} {ds : List D} {ρ ρ' : Ev}, putBack is ds ρ = some ρ' → is.Nodup → (∀ i ∈ is, i < ρ.length) →
    ρ'.length = ρ.length ∧ ds.length = is.length ∧ (∀ (j : Nat), j ∉ is → ρ'[j]? = ρ[j]?) ∧ ∀ (k i : Nat) d, is[k]? = some i → ds[k]? = some d → ρ'[i]? = some (.ow d)
  | [], [], ρ, ρ', h, _, _ => by
    simp [putBack] at h
    subst h
    exact ⟨rfl, rfl, fun _ _ => rfl, fun k i d e => by simp at e⟩
  | [], _ :: _, _, _, h, _, _ => by simp [putBack] at h
  | _ :: _, [], _, _, h, _, _ => by simp [putBack] at h
  | i :: is, d :: ds, ρ, ρ', h, nd, hl => by
    rw [putBack] at h
    obtain ⟨nd1, nd2⟩ := List.nodup_cons.mp nd
    obtain ⟨h1, h2, h3, h4⟩ := putBack_get h nd2 (fun j hj => by rw [List.length_set]; exact hl j (List.mem_cons_of_mem _ hj))
    rw [List.length_set] at h1
    refine ⟨h1, by simp [h2], fun j hj => ?_, fun k j e e1 e2 => ?_⟩
    · rw [List.mem_cons, not_or] at hj
      rw [h3 j hj.2, List.getElem?_set_ne (fun z => hj.1 z.symm)]
    · cases k with
      | zero =>
        simp at e1 e2
        subst e1 e2
        rw [h3 _ nd1, List.getElem?_set_self (hl _ List.mem_cons_self)]
      | succ k => exact h4 k j e (by simpa using e1) (by simpa using e2)
theorem getsR_len {ρ : Ev} : ∀ {rs : List Rv} {ds : List D}, getsR ρ rs = some ds → ds.length = rs.length ∧ ∀ (i : Nat) d, ds[i]? = some d → ∃ r, rs[i]? = some r ∧ r.get ρ = some d
  | [], ds, h => by
    simp [getsR] at h
    subst h
    exact ⟨rfl, fun i d e => by simp at e⟩
  | r :: rs, ds, h => by
    rw [getsR] at h
    split at h
    · rename_i d ds' h1 h2
      cases h
      obtain ⟨h3, h4⟩ := getsR_len h2
      refine ⟨by simp [h3], fun i e he => ?_⟩
      cases i with
      | zero =>
        simp at he
        subst he
        exact ⟨r, rfl, h1⟩
      | succ i =>
        obtain ⟨r', h5, h6⟩ := h4 i e (by simpa using he)
        exact ⟨r', by simpa using h5, h6⟩
    · cases h
theorem paired_get {α β : Type} {R : α → β → Prop} : ∀ {l₁ : List α} {l₂ : List β} {i : Nat} {x : α}, Paired R l₁ l₂ → l₁[i]? = some x → ∃ u, l₂[i]? = some u ∧ R x u
  | _, _, _, _, .nil, e => by simp at e
  | _, _, 0, x, .cons a t, e => by
    simp at e
    subst e
    exact ⟨_, rfl, a⟩
  | _, _, i + 1, x, .cons a t, e => by
    obtain ⟨u, h1, h2⟩ := paired_get (i := i) (x := x) t (by simpa using e)
    exact ⟨u, by simpa using h1, h2⟩
/-- behind a call: what the frame's slots are, where is (of mp) were handed over owned -/
theorem Rep.called (R : Rep p P F H ρ σ fp) {is : List Nat} {ms : List D} {W : Addr → Prop} (own : ∀ i ∈ is, ∃ d, ρ[i]? = some (.ow d)) (nd : is.Nodup) (hb : putBack is ms ρ = some ρ') (hW : ∀ a, W a ↔ ∃ i ∈ is, a ∈ fp i)
    (E : Ext F H W F' H' W) (s : Same F' H') (hm : ∀ (k i : Nat), is[k]? = some i → ∃ d w, ms[k]? = some d ∧ σ[i]? = some (some w) ∧ Own p F' H' d w (fp i) ∧ ∀ a ∈ fp i, F' a = none) :
    Ext F H (Wn ρ fp) F' H' (Wn ρ' fp) ∧ Rep p P F' H' ρ' σ fp ∧ ∀ a, Wn ρ' fp a → Wn ρ fp a := by
  have lt : ∀ i ∈ is, i < ρ.length := fun i hi => by
    obtain ⟨d, e⟩ := own i hi
    exact (List.getElem?_eq_some_iff.mp e).1
  obtain ⟨b1, b2, b3, b4⟩ := putBack_get hb nd lt
  have WW : ∀ a, W a → Wn ρ fp a := fun a w => by
    obtain ⟨i, hi, ha⟩ := (hW a).mp w
    obtain ⟨d, e⟩ := own i hi
    exact ⟨i, d, e, ha⟩
  -- an owned slot behind was owned ahead
  have back : ∀ (i : Nat) (d : D), ρ'[i]? = some (.ow d) → ∃ d', ρ[i]? = some (.ow d') := fun i d e => by
    by_cases hi : i ∈ is
    · exact own i hi
    · rw [b3 i hi] at e
      exact ⟨d, e⟩
  refine ⟨⟨E.same, fun a o e n => E.keep a o e fun w => n (WW a w), E.there, fun a h => ?_, fun a w => ?_⟩, ⟨s, b1.trans R.len, fun i d e => ?_, fun i d e => ?_, fun i j d e hij h1 h2 => ?_, fun q hq d e => ?_⟩, fun a w => ?_⟩
  · rcases E.newF a h with h | h | h
    · exact .inl h
    · exact .inr (.inl h)
    · exact .inr (.inr (WW a h))
  · obtain ⟨i, d, e, ha⟩ := w
    obtain ⟨d', e'⟩ := back i d e
    exact .inl ⟨i, d', e', ha⟩
  · by_cases hi : i ∈ is
    · obtain ⟨k, hk, rfl⟩ := List.getElem_of_mem hi
      obtain ⟨d', w, h1, _⟩ := hm k _ (List.getElem?_eq_getElem hk)
      rw [b4 k _ d' (List.getElem?_eq_getElem hk) h1] at e
      cases e
    · rw [b3 i hi] at e
      obtain ⟨v, h1, h2⟩ := R.sh i d e
      exact ⟨v, h1, h2.mono E.same⟩
  · by_cases hi : i ∈ is
    · obtain ⟨k, hk, rfl⟩ := List.getElem_of_mem hi
      obtain ⟨d', w, h1, h2, h3, h4⟩ := hm k _ (List.getElem?_eq_getElem hk)
      rw [b4 k _ d' (List.getElem?_eq_getElem hk) h1] at e
      cases e
      exact ⟨w, h2, h3, h4⟩
    · rw [b3 i hi] at e
      obtain ⟨v, h1, h2, h3⟩ := R.ow i d e
      have nW : ∀ a ∈ fp i, ¬ W a := fun a ha w => by
        obtain ⟨j, hj, ha'⟩ := (hW a).mp w
        obtain ⟨d', e'⟩ := own j hj
        exact R.dj i j d d' (fun z => hi (z ▸ hj)) e e' a ha ha'
      refine ⟨v, h1, h2.keep E.same fun a ha => ?_, fun a ha => ?_⟩
      · obtain ⟨u, hu⟩ := h2.there a ha
        rw [hu]
        exact E.keep a u hu (nW a ha)
      · cases z : F' a with
        | none => rfl
        | some u =>
          rcases E.newF a (by rw [z]; simp) with y | y | y
          · exact absurd (h3 a ha) y
          · obtain ⟨u, hu⟩ := h2.there a ha
            rw [hu] at y
            cases y
          · exact absurd y (nW a ha)
  · obtain ⟨d', e1⟩ := back i d h1
    obtain ⟨e', e2⟩ := back j e h2
    exact R.dj i j d' e' hij e1 e2
  · obtain ⟨d', e1⟩ := back _ d e
    exact R.prm q hq d' e1
  · obtain ⟨i, d, e, ha⟩ := w
    obtain ⟨d', e'⟩ := back i d e
    exact ⟨i, d', e', ha⟩
end
theorem fresh_val {p : Pm} {P : Pr} {H0 F H F' H' : Hp} {ρ ρ' : Ev} {σ : L2.St} {fp : Nat → List Addr} {b : Bool} {r : D} {v : V} (R : Rep p P F H ρ σ fp) (hW : ∀ a, Wn ρ' fp a → Wn ρ fp a) (hb : ∀ a, H0 a ≠ none → H a ≠ none)
    (h : if b = true then ∃ q, Own p F' H' r v q ∧ ∀ a ∈ q, F' a = none ∧ H a = none else At p F' r v) : Val p H0 F' H' ρ' σ fp (if b = true then .fr r else .sh r) v := by
  split at h
  · rename_i hf
    rw [if_pos hf]
    obtain ⟨q, o, hq⟩ := h
    refine ⟨q, o, fun a ha => ⟨(hq a ha).1, Classical.byContradiction fun z => hb a z (hq a ha).2, fun w => ?_⟩⟩
    obtain ⟨_, u, hu⟩ := R.wn (hW a w)
    rw [(hq a ha).2] at hu
    cases hu
  · rename_i hf
    rw [if_neg hf]
    exact h
theorem paired_len {α β : Type} {R : α → β → Prop} : ∀ {l₁ : List α} {l₂ : List β}, Paired R l₁ l₂ → l₁.length = l₂.length
  | _, _, .nil => rfl
  | _, _, .cons _ t => by simp [paired_len t]
/-- the arguments of a call -/
theorem args_at {p : Pm} {P : Pr} {F H : Hp} {ρ : Ev} {σ : L2.St} {fp : Nat → List Addr} {mp is : List Nat} {rs : List Rv} {vs dvs : List V} {ds dfl : List D} (R : Rep p P F H ρ σ fp) (hmp : ∀ i ∈ mp, i < rs.length) (hnd : mp.Nodup) (hs : ∀ (i : Nat) r, i ∉ mp → rs[i]? = some r → ∃ d, r = .sh d)
    (hr : Paired (Still p F σ) rs vs) (hi : mutSlots mp rs = some is) (hd : getsR ρ rs = some ds) (hown : allOwn is ρ = true) (hdf : AtL p F dfl dvs) :
    ∃ fp', ArgsAt p mp F H (ds ++ dfl) (vs ++ dvs) fp' ∧ ∀ (k j i : Nat), mp[k]? = some j → is[k]? = some i → fp' j = fp i ∧ ∃ w, (vs ++ dvs)[j]? = some w ∧ σ[i]? = some (some w) := by
  obtain ⟨l1, nd, g1⟩ := mutSlots_get hi
  obtain ⟨l2, g2⟩ := getsR_len hd
  have l3 := paired_len hr
  have own := allOwn_get hown
  -- the slot of the argument j
  refine ⟨fun j => match rs[j]? with
    | some (.ow i) => fp i
    | _ => [], ⟨?_, R.sub, fun i d hi' e => ?_, fun j d hj e => ?_, fun j j' hjj hj hj' a ha => ?_⟩, fun k j i hj hi' => ?_⟩
  · rw [List.length_append, List.length_append, l2, l3, hdf.length]
  · by_cases hlt : i < ds.length
    · rw [List.getElem?_append_left hlt] at e
      obtain ⟨r, h1, h2⟩ := g2 i d e
      obtain ⟨d', rfl⟩ := hs i r hi' h1
      simp [Rv.get] at h2
      subst h2
      obtain ⟨v, h3, h4⟩ := paired_get hr h1
      refine ⟨v, ?_, h4⟩
      rw [List.getElem?_append_left (by rw [← l3, ← l2]; exact hlt)]
      exact h3
    · rw [List.getElem?_append_right (by omega)] at e
      obtain ⟨v, h1, h2⟩ := hdf.get e
      refine ⟨v, ?_, h2⟩
      rw [List.getElem?_append_right (by rw [← l3, ← l2]; omega), ← l3, ← l2]
      exact h1
  · obtain ⟨k, hk, rfl⟩ := List.getElem_of_mem hj
    obtain ⟨i, h1, h2⟩ := g1 k _ (List.getElem?_eq_getElem hk)
    have hlt := hmp _ (List.getElem_mem hk)
    rw [List.getElem?_append_left (by rw [l2]; exact hlt)] at e
    obtain ⟨r, h3, h4⟩ := g2 _ d e
    rw [h2] at h3
    cases h3
    obtain ⟨d', h5⟩ := own i (List.mem_of_getElem? h1)
    simp [Rv.get, h5] at h4
    subst h4
    obtain ⟨v, h6, h7⟩ := paired_get hr h2
    obtain ⟨v', h8, h9, h10⟩ := R.ow i _ h5
    have h7 : σ[i]? = some (some v) := h7
    rw [h7] at h8
    cases h8
    refine ⟨v, ?_, ?_⟩
    · rw [List.getElem?_append_left (by rw [← l3]; exact hlt)]
      exact h6
    · simp only [h2]
      exact ⟨h9, h10⟩
  · obtain ⟨k, hk, rfl⟩ := List.getElem_of_mem hj
    obtain ⟨k', hk', rfl⟩ := List.getElem_of_mem hj'
    obtain ⟨i, h1, h2⟩ := g1 k _ (List.getElem?_eq_getElem hk)
    obtain ⟨i', h1', h2'⟩ := g1 k' _ (List.getElem?_eq_getElem hk')
    simp only [h2, h2'] at ha ⊢
    obtain ⟨d, h3⟩ := own i (List.mem_of_getElem? h1)
    obtain ⟨d', h3'⟩ := own i' (List.mem_of_getElem? h1')
    refine R.dj i i' d d' (fun z => ?_) h3 h3' a ha
    subst z
    have : k = k' := by
      obtain ⟨q1, q2⟩ := List.getElem?_eq_some_iff.mp h1
      obtain ⟨q3, q4⟩ := List.getElem?_eq_some_iff.mp h1'
      exact (List.getElem_inj nd).mp (q2.trans q4.symm)
    subst this
    exact hjj rfl
  · obtain ⟨i2, h1, h2⟩ := g1 k j hj
    rw [hi'] at h1
    cases h1
    obtain ⟨v, h6, h7⟩ := paired_get hr h2
    refine ⟨by simp only [h2], v, ?_, h7⟩
    rw [List.getElem?_append_left (List.getElem?_eq_some_iff.mp h6).1]
    exact h6
/-- each argument that is not owned stands still -/
def Args (mp : List Nat) (rs : List Rv) : Prop := ∀ (i : Nat) r, i ∉ mp → rs[i]? = some r → ∃ d, r = .sh d
theorem seqCall {p : Pm} {P : Pr} {m : MFn} {n : Nat} {fm : FR} {dfl : List D} {dvs : List V} {σ : L2.St} {H : Hp} {Q : VK} {E : XK} (hnd : m.mp.Nodup) (hlen : ∀ ds, ds.length ≠ n → m.run ds = .bad) (hd : ∀ F, AtL p F dfl dvs)
    (hs : ∀ ρ x, fm ρ = .ok x → Args m.mp x.1)
    (h : tE p P (fCall m fm dfl) σ H Q) : tCall (spV p m n) dvs E (tR p P fm) σ H Q := by
  obtain ⟨F, ρ, fp, R, h⟩ := h
  unfold fCall at h
  simp only [wpR_bind, wpR_lift, wpR_noEx] at h
  have h' : wpR (Exc P F H (Wn ρ fp)) (fun x => Args m.mp x.1 ∧ ∃ a, mutSlots m.mp x.1 = some a ∧ ∃ a_2, getsR x.2 x.1 = some a_2 ∧ wpR (fun _ => False) (fun a_4 => wpR (Exc P F H (Wn ρ fp)) (fun x =>
    ∀ F' H' fp' v, Ext F H (Wn ρ fp) F' H' (Wn x.2 fp') → Rep p P F' H' x.2 σ fp' → Val p H F' H' x.2 σ fp' x.1 v → Q v H') (if allOwn a x.2 = true then (do let ρ2 ← putBack a a_4.2 x.2; pure (if m.fresh = true then .fr a_4.1 else .sh a_4.1, ρ2)) else Res.bad)) (m.run (a_2 ++ dfl))) (fm ρ) := by
    cases e : fm ρ with
    | bad => rw [e] at h; exact h
    | ex d => rw [e] at h; exact h
    | ok x => rw [e] at h; exact ⟨hs ρ x e, h⟩
  refine tR.go Ext.refl R h' fun x ⟨ar, is, hi, ds, hg, g⟩ F1 H1 fp1 vs E1 _ R1 A1 => ?_
  -- the number of arguments
  obtain ⟨r, hr, g⟩ := wpR_false g
  have ln : (ds ++ dfl).length = n := Classical.byContradiction fun z => by rw [hlen _ z] at hr; cases hr
  obtain ⟨l2, g2⟩ := getsR_len hg
  have l3 := paired_len A1
  split at g
  · rename_i hown
    simp only [wpR_bind, wpR_lift, wpR_pure] at g
    obtain ⟨ρ2, hpb, k⟩ := g
    obtain ⟨l1, nd, g1⟩ := mutSlots_get hi
    have hmp : ∀ i ∈ m.mp, i < x.1.length := fun j hj => by
      obtain ⟨k, hk, rfl⟩ := List.getElem_of_mem hj
      obtain ⟨i, _, h2⟩ := g1 k _ (List.getElem?_eq_getElem hk)
      exact (List.getElem?_eq_some_iff.mp h2).1
    obtain ⟨fp', AA, hfp⟩ := args_at R1 hmp hnd ar A1 hi hg hown (hd F1)
    refine ⟨by rw [← AA.len]; exact ln, F1, _, fp', fun i hi' => ?_, hnd, AA, ?_⟩
    · have := hmp i hi'
      rw [List.length_append, l2] at ln
      omega
    · rw [hr]
      intro F' H' v E' s hv hl hm
      have own := allOwn_get hown
      have e1 : ∀ a, Wa m.mp fp' a ↔ ∃ i ∈ is, a ∈ fp1 i := fun a => by
        constructor
        · rintro ⟨j, hj, ha⟩
          obtain ⟨k, hk, rfl⟩ := List.getElem_of_mem hj
          obtain ⟨i, h1, h2⟩ := g1 k _ (List.getElem?_eq_getElem hk)
          rw [(hfp k _ i (List.getElem?_eq_getElem hk) h1).1] at ha
          exact ⟨i, List.mem_of_getElem? h1, ha⟩
        · rintro ⟨i, hi', ha⟩
          obtain ⟨k, hk, rfl⟩ := List.getElem_of_mem hi'
          have hk' : k < m.mp.length := by omega
          rw [← (hfp k _ _ (List.getElem?_eq_getElem hk') (List.getElem?_eq_getElem hk)).1] at ha
          exact ⟨_, List.getElem_mem hk', ha⟩
      obtain ⟨E2, R2, hW⟩ := R1.called (W := Wa m.mp fp') own nd hpb e1 E' s fun k i hk => by
        have hk' : k < m.mp.length := by
          have := (List.getElem?_eq_some_iff.mp hk).1
          omega
        obtain ⟨d, w, h1, h2, h3, h4⟩ := hm k _ (List.getElem?_eq_getElem hk')
        obtain ⟨h5, w', h6, h7⟩ := hfp k _ i (List.getElem?_eq_getElem hk') hk
        rw [h2] at h6
        cases h6
        rw [h5] at h3 h4
        exact ⟨d, w, h1, h7, h3, h4⟩
      exact k F' H' fp1 v (E1.trans E2) R2 (fresh_val R1 hW E1.there hv)
  · exact g.elim

section
variable {X : Cx} {CX : CXT} {cls : Nat → Option (Addr × List Str)} {P : Pr} {e : Expr} {es : List Expr} {fm : FR} {fa : FE} {fr : FA} {m : MFn} {k n : Nat} {f C g pr : Addr} {fd : FuncData} {ps : List Str} {ds : List Value} {dvs : List V} {dfl : List D} {E : XK} {x fl : Str} {p0 pos : Pos}
theorem e_call (F : FnOk X.prog X.w X.K X.mg X.base CX k f fd ps (spV (pmOf X cls) m n)) (hr : Room k X.A) (hg : Gl X x) (hm : X.mg x = some (.ref f)) (hk : PySem.W.keepIn X.K (.ref f) = true) (hb : Binds X.K fd ps ds) (hd : Vals dvs ds) (hx : Passes CX X E)
    (hnd : m.mp.Nodup) (hlen : ∀ ds, ds.length ≠ n → m.run ds = .bad) (hdf : ∀ F, AtL (pmOf X cls) F dfl dvs) (hs : ∀ ρ x, fm ρ = .ok x → Args m.mp x.1) (ha : PA X (e :: es) (tR (pmOf X cls) P fm))
    (hdb : (x == ("__debug__" : Str)) = false) (he : starEach (e :: es) X.env = (false, eval e X.env) :: starEach es X.env) (hpl : (backTo pos (starEach es X.env)).any (·.1) = false) :
    PE X (.Call (.Name x p0) (e :: es) [] pos) (tE (pmOf X cls) P (fCall m fm dfl)) :=
  (pe_call F hr hg hm hk hb hd hx ha hdb he hpl).weak fun _ _ _ h => seqCall hnd hlen hdf hs h
/-- a new instance: m is its class's __init__ -/
theorem seqNew {p : Pm} {c : Nat} {ns : List Str} {σ : L2.St} {H : Hp} {Q : VK} (hc : c ≠ 0 ∧ c ≠ 99) (hcl : p.cls c = some (C, ns)) (hmp : m.mp = [0]) (hfr : m.fresh = false) (hlen : ∀ ds, ds.length ≠ n → m.run ds = .bad)
    (h : tE p P (fNew m c fr) σ H Q) : tMake C (spV p m n) [] E (tA p P fr) σ H Q := by
  obtain ⟨F, ρ, fp, R, h⟩ := h
  unfold fNew at h
  simp only [wpR_bind, wpR_noEx] at h
  refine tA.go Ext.refl R h fun x g F1 H1 fp1 vs E1 _ R1 A1 => ?_
  intro b dx nb ndx hne
  obtain ⟨r, hr, g⟩ := wpR_false g
  have ln : (Dins c [] :: x.1).length = n := Classical.byContradiction fun z => by rw [hlen _ z] at hr; cases hr
  have hb : ∀ a, a ≠ b → a ≠ dx → upd (upd H1 dx (.own b)) b (.ins C dx []) a = H1 a := fun a h1 h2 => by rw [upd_ne h1, upd_ne h2]
  have nF : F1 b = none := R1.sub.none nb
  have sub : Same F1 (upd (upd H1 dx (.own b)) b (.ins C dx [])) := fun a o e => by
    rw [hb a (fun z => by rw [z, nF] at e; cases e) (fun z => by rw [z, R1.sub.none ndx] at e; cases e)]
    exact R1.sub a o e
  refine ⟨by rw [List.append_nil, List.length_cons, ← A1.length]; exact ln, F1, Dins c [] :: x.1, fun _ => [b], fun i hi => ?_, by rw [hmp]; simp, ⟨?_, sub, fun i d hi e => ?_, fun i d hi e => ?_, fun i j hij hi hj => ?_⟩, ?_⟩
  · rw [hmp] at hi
    simp at hi
    subst hi
    rw [← ln]
    simp
  · rw [List.append_nil, List.length_cons, List.length_cons, A1.length]
  · rw [hmp] at hi
    cases i with
    | zero => simp at hi
    | succ i =>
      obtain ⟨v, h1, h2⟩ := A1.get (i := i) (d := d) (by simpa using e)
      exact ⟨v, by simpa using h1, h2⟩
  · rw [hmp] at hi
    simp at hi
    subst hi
    simp at e
    subst e
    refine ⟨_, rfl, .ins hc upd_same hcl (by simp) (by simpa using AtL.nil), fun a ha => ?_⟩
    simp at ha
    subst ha
    exact nF
  · rw [hmp] at hi hj
    simp at hi hj
    exact absurd (hi.trans hj.symm) hij
  · rw [hr]
    intro F' H' v E' s hv hl hm
    rw [hfr] at hv
    have hv : At p F' r.1 v := by simpa using hv
    rw [hmp] at hl hm
    obtain ⟨r1, r2⟩ := r
    match r1, r2, g with
    | .none, [d], g =>
      obtain ⟨d', w', e1, e2, o, on⟩ := hm 0 0 rfl
      simp at e1 e2
      subst e1 e2
      refine ⟨by cases hv; rfl, ?_⟩
      have Wb : ∀ a, Wa m.mp (fun _ => [b]) a → a = b := fun a ⟨_, _, ha⟩ => by simpa using ha
      -- what the frame sees
      have E2 : Ext F1 H1 (Wn ρ fp1 |> fun _ => Wn x.2 fp1) F' H' (Wn x.2 fp1) := by
        refine ⟨E'.same, fun a o e n => ?_, fun a ha => ?_, fun a ha => ?_, fun a w => .inl w⟩
        · have z1 : a ≠ b := fun z => by rw [z, nb] at e; cases e
          have z2 : a ≠ dx := fun z => by rw [z, ndx] at e; cases e
          exact E'.keep a o ((hb a z1 z2).trans e) fun w => z1 (Wb a w)
        · refine E'.there a fun z => ha ?_
          by_cases z1 : a = b
          · rw [z1]; exact nb
          · by_cases z2 : a = dx
            · rw [z2]; exact ndx
            · rw [← hb a z1 z2]; exact z
        · rcases E'.newF a ha with q | q | q
          · exact .inl q
          · refine .inr (.inl ?_)
            by_cases z1 : a = b
            · rw [z1]; exact nb
            · by_cases z2 : a = dx
              · rw [z2]; exact ndx
              · rw [← hb a z1 z2]; exact q
          · rw [Wb a q]
            exact .inr (.inl nb)
      have nWb : ∀ a, Wn x.2 fp1 a → a ≠ b ∧ a ≠ dx := fun a w => by
        obtain ⟨_, u, hu⟩ := R1.wn w
        exact ⟨fun z => (by rw [z, nb] at hu; cases hu), fun z => (by rw [z, ndx] at hu; cases hu)⟩
      have R2 : Rep p P F' H' x.2 σ fp1 := by
        have st : ∀ (i : Nat) (d : D) (v : V), x.2[i]? = some (.ow d) → Own p F1 H1 d v (fp1 i) → (∀ a ∈ fp1 i, F1 a = none) → Own p F' H' d v (fp1 i) ∧ ∀ a ∈ fp1 i, F' a = none := fun i d v e o n => by
          refine ⟨o.keep E'.same fun a ha => ?_, fun a ha => ?_⟩
          · obtain ⟨u, hu⟩ := o.there a ha
            obtain ⟨z1, z2⟩ := nWb a ⟨i, d, e, ha⟩
            rw [hu]
            exact E'.keep a u ((hb a z1 z2).trans hu) fun w => z1 (Wb a w)
          · cases q : F' a with
            | none => rfl
            | some y =>
              obtain ⟨z1, z2⟩ := nWb a ⟨i, d, e, ha⟩
              rcases E'.newF a (by rw [q]; simp) with q | q | q
              · exact absurd (n a ha) q
              · obtain ⟨u, hu⟩ := o.there a ha
                rw [hb a z1 z2, hu] at q
                cases q
              · exact absurd (Wb a q) z1
        exact ⟨s, R1.len, fun i d e => (R1.sh i d e).imp fun v h => ⟨h.1, h.2.mono E'.same⟩, fun i d e => by
          obtain ⟨v, h1, h2, h3⟩ := R1.ow i d e
          exact ⟨v, h1, st i d v e h2 h3⟩, R1.dj, R1.prm⟩
      exact g F' H' fp1 _ (E1.trans E2) R2 ⟨[b], o, fun a ha => by
        simp at ha
        subst ha
        exact ⟨on _ (by simp), E1.back nb, fun w => (nWb _ w).1 rfl⟩⟩
    | .none, [], g => exact g.elim
    | .none, _ :: _ :: _, g => exact g.elim
    | .bool _, _, g => exact g.elim
    | .int _, _, g => exact g.elim
    | .str _, _, g => exact g.elim
    | .list _, _, g => exact g.elim
    | .tuple _, _, g => exact g.elim
    | .dict _, _, g => exact g.elim
theorem e_new {c : Nat} {ns : List Str} (M : Mk X.K C f) (F : FnOk X.prog X.w X.K X.mg X.base CX k f fd ps (spV (pmOf X cls) m n)) (hr : Room (k + 1) X.A) (hg : Gl X x) (hm : X.mg x = some (.ref C)) (hb : Binds X.K fd ps []) (hx : Passes CX X E)
    (hc : c ≠ 0 ∧ c ≠ 99) (hcl : cls c = some (C, ns)) (hmp : m.mp = [0]) (hfr : m.fresh = false) (hlen : ∀ ds, ds.length ≠ n → m.run ds = .bad) (ha : PA X (e :: es) (tA (pmOf X cls) P fr))
    (hdb : (x == ("__debug__" : Str)) = false) (he : starEach (e :: es) X.env = (false, eval e X.env) :: starEach es X.env) (hpl : (backTo pos (starEach es X.env)).any (·.1) = false) :
    PE X (.Call (.Name x p0) (e :: es) [] pos) (tE (pmOf X cls) P (fNew m c fr)) :=
  (pe_make M F hr hg hm hb .nil hx ha hdb he hpl).weak fun _ _ _ h => seqNew hc hcl hmp hfr hlen h
end
end VL

set_option Elab.async false
set_option linter.all false
set_option maxRecDepth 100000
/-! V11: subscripts, fields, properties, isinstance, views. -/
namespace VL
open PySem PySem.Spec PySem.W PyProof.Rows L2 StX

/-- an instance of an own class -/
theorem AtH.ins {p : Pm} {F H : Hp} {d : D} {v : V} {c : Nat} {ci : Int} {fs : List D} (s : Same F H) (h : AtH p F H d v) (e : insOf d = some (ci, fs)) (ec : ci = (c : Int)) (hc : c ≠ 0 ∧ c ≠ 99) :
    ∃ a C dx ns fv, v = .ref a ∧ H a = some (.ins C dx fv) ∧ p.cls c = some (C, ns) ∧ fv.map (·.1) = ns.take fs.length ∧ AtL p F fs (fv.map (·.2)) := by
  subst ec
  have pl : ∀ kvs, d = .dict kvs → plainD kvs = true → False := fun kvs e1 e2 => by
    subst e1
    unfold insOf at e
    split at e
    · rename_i q
      cases q
      cases e2
    · cases e
  rcases h with h | ⟨q, h⟩
  · cases h with
    | non => cases e
    | bl => cases e
    | int => cases e
    | str => cases e
    | lst => cases e
    | tup => cases e
    | scr h =>
      have e := Option.some.inj ((insOf_ins 99 _).symm.trans e)
      have : (99 : Int) = c := congrArg Prod.fst e
      omega
    | dct h m k => exact (pl _ rfl m).elim
    | @ins a C dx c' ns fs' ds h cl z m l =>
      have e := Option.some.inj ((insOf_ins c' _).symm.trans e)
      have e1 : (c' : Int) = c := congrArg Prod.fst e
      have e2 : ds = fs := congrArg Prod.snd e
      have e1 : c' = c := by omega
      subst e1 e2
      refine ⟨a, C, dx, ns, fs', rfl, s _ _ h, cl, ?_, l⟩
      rw [← m, l.length]
      exact (List.take_of_length_le (by simp)).symm
  · cases h with
    | lst => cases e
    | dct h m k => exact (pl _ rfl m).elim
    | @ins a C dx c' ns fs' ds z h cl m l =>
      have e := Option.some.inj ((insOf_ins c' _).symm.trans e)
      have e1 : (c' : Int) = c := congrArg Prod.fst e
      have e2 : ds = fs := congrArg Prod.snd e
      have e1 : c' = c := by omega
      subst e1 e2
      exact ⟨a, C, dx, ns, fs', rfl, h, cl, m, l⟩
    | tape ne h h2 l =>
      have e := Option.some.inj ((insOf_ins 0 _).symm.trans e)
      have : (0 : Int) = c := congrArg Prod.fst e
      omega
theorem lookup_at : ∀ {fv : List (Str × V)} {ns : List Str} {j : Nat} {f : Str} {v : V}, fv.map (·.1) = ns → ns.Nodup → ns[j]? = some f → (fv.map (·.2))[j]? = some v → fv.lookup f = some v
  | [], _, j, f, v, e, nd, h1, h2 => by simp at h2
  | (g, w) :: fv, ns, j, f, v, e, nd, h1, h2 => by
    subst e
    rw [List.map_cons] at nd h1 h2
    obtain ⟨n1, n2⟩ := List.nodup_cons.mp nd
    cases j with
    | zero =>
      simp at h1 h2
      subst h1 h2
      simp
    | succ j =>
      have h1 : (fv.map (·.1))[j]? = some f := by simpa using h1
      have h2 : (fv.map (·.2))[j]? = some v := by simpa using h2
      rw [List.lookup_cons]
      have : f ≠ g := fun z => n1 (z ▸ List.mem_of_getElem? h1)
      rw [beq_false_of_ne this]
      exact lookup_at rfl n2 h1 h2
section
variable {X : Cx} {cls : Nat → Option (Addr × List Str)} {P : Pr} {a b e : Expr} {fa fb : FE} {pos : Pos} {f : Str}
theorem e_fld {c j : Nat} {C : Addr} {ns : List Str} (ok : POk (pmOf X cls)) (ha : PE X a (tE (pmOf X cls) P fa)) (hc : c ≠ 0 ∧ c ≠ 99) (hcl : cls c = some (C, ns)) (hj : ns[j]? = some f) (nd : ns.Nodup) (C1 : Cls X.K C) (C2 : NoAttr X.K C f)
    (hb : attributeBase a f X.env (eval a X.env) = eval a X.env) : PE X (.Attribute a f pos) (tE (pmOf X cls) P (fUn fa (fldR c j))) := by
  refine (pe_fld ha hb).weak fun σ H Q h => ?_
  refine tE_mono (fun v H1 hq => ?_) _ _ (seq1 ok h)
  obtain ⟨F, dx, rv, s, h1, h2, k⟩ := hq
  unfold fldR at h2
  split at h2
  · rename_i c' fs e1
    split at h2
    · rename_i e2
      obtain ⟨x, C', y, ns', fv, rfl, e3, e4, e5, l⟩ := h1.ins s e1 e2 hc
      have e4 : cls c = some (C', ns') := e4
      rw [hcl] at e4
      cases e4
      cases e6 : fs[j]? with
      | none => rw [e6] at h2; cases h2
      | some d =>
        rw [e6] at h2
        cases h2
        obtain ⟨v, e7, e8⟩ := l.get e6
        refine ⟨x, _, y, fv, v, rfl, e3, C1, C2, lookup_at e5 (nd.sublist (List.take_sublist _ _)) ?_ e7, k.pure s e8⟩
        have : j < fs.length := (List.getElem?_eq_some_iff.mp e6).1
        rw [List.getElem?_take_of_lt this]
        exact hj
    · cases h2
  · cases h2
theorem e_prop {CX : CXT} {k : Nat} {C pr g : Addr} {fd : FuncData} {ps : List Str} {ds : List Value} {E : XK} {m : MFn} {c : Nat} {ns : List Str} (ok : POk (pmOf X cls)) (ha : PE X a (tE (pmOf X cls) P fa)) (hc : c ≠ 0 ∧ c ≠ 99) (hcl : cls c = some (C, ns)) (C1 : Cls X.K C) (hp : PropOf X.K C f pr g)
    (Fn : FnOk X.prog X.w X.K X.mg X.base CX k g fd ps (spV (pmOf X cls) m 1)) (hr : Room (k + 1) X.A) (hb : Binds X.K fd ps []) (hx : Passes CX X.nox E) (hlen : ∀ ds, ds.length ≠ 1 → m.run ds = .bad)
    (hab : attributeBase a f X.env (eval a X.env) = eval a X.env) : PE X (.Attribute a f pos) (tE (pmOf X cls) P (fProp m c fa)) := by
  refine (pe_prop ha C1 hp Fn hr hb .nil hx hab).weak fun σ H Q ⟨F, ρ, fp, R, h⟩ => ?_
  unfold fProp at h
  simp only [wpR_bind, wpR_noEx] at h
  refine fz_go ok Ext.refl R h fun x g F1 H1 fp1 v E1 _ R1 A1 => ?_
  obtain ⟨r, hr, g⟩ := wpR_false g
  split at g
  · rename_i po
    unfold propOk at po
    rw [Bool.and_eq_true, Bool.and_eq_true] at po
    obtain ⟨⟨p1, p2⟩, p3⟩ := po
    have p1 : m.mp = [] := List.isEmpty_iff.mp p1
    have p2 : m.fresh = false := by simpa using p2
    split at p3
    · rename_i c' fs e1
      have e2 : c' = c := of_decide_eq_true p3
      obtain ⟨b, C', dx, ns', fv, rfl, e3, e4, e5, l⟩ := (show AtH (pmOf X cls) F1 H1 x.1 v from .inl A1).ins R1.sub e1 e2 hc
      have e4 : cls c = some (C', ns') := e4
      rw [hcl] at e4
      cases e4
      refine ⟨b, dx, fv, rfl, e3, rfl, F1, [x.1], fun _ => [], fun i hi => (by rw [p1] at hi; cases hi), by rw [p1]; exact List.nodup_nil, ⟨rfl, R1.sub, fun i d hi e => ?_, fun i d hi e => (by rw [p1] at hi; cases hi), fun i j _ hi => (by rw [p1] at hi; cases hi)⟩, ?_⟩
      · cases i with
        | zero =>
          simp at e
          subst e
          exact ⟨_, rfl, A1⟩
        | succ i => simp at e
      · rw [hr]
        intro F' H' w E' s hv _ _
        rw [p2] at hv
        have hv : At (pmOf X cls) F' r.1 w := by simpa using hv
        have W0 : ∀ a, ¬ Wa m.mp (fun _ => ([] : List Addr)) a := fun a ⟨_, _, z⟩ => by cases z
        have n : Nw F1 H1 F' H' := ⟨E'.same, fun a o e => E'.keep a o e (W0 a), fun a ha => by
          rcases E'.newF a ha with q | q | q
          · exact .inl q
          · exact .inr q
          · exact (W0 a q).elim⟩
        exact g F' H' fp1 w (E1.trans n.ext) (R1.new n s) hv
    · cases p3
  · exact g.elim
/-! ### a[i] -/
theorem opr_ix (hr : X.A.units + 64 < cLine) : IxR X (rB (pmOf X cls) ixR) := by
  intro value slice pins s σ H x y v u Q I rx ry ⟨F, dx, dy, rv, sF, hx, hy, e, k⟩ hs
  unfold ixR at e
  cases e0 : ixD dx dy with
  | none => rw [e0] at e; cases e
  | some d =>
    rw [e0] at e
    cases e
    unfold ixD at e0
    have idx : ∀ {ds : List D} {vs : List V} {i : Int}, AtL (pmOf X cls) F ds vs → ixAt ds i = some d → ∃ w, atI vs i = some w ∧ At (pmOf X cls) F d w := fun {ds vs i} l h => by
      unfold ixAt at h
      obtain ⟨j, h1, h2⟩ := Option.bind_eq_some_iff.mp h
      obtain ⟨w, h3, h4⟩ := l.get h2
      refine ⟨w, ?_, h4⟩
      show (ixN vs.length i).bind (fun j => vs[j]?) = some w
      rw [← l.length, h1]
      exact h3
    split at e0
    · obtain ⟨a, vs, rfl, ha, la⟩ := hx.lst sF
      obtain ⟨w, h1, h2⟩ := idx la e0
      exact ix_list value slice pins s σ H _ _ v u Q I rx ry ⟨a, vs, _, w, rfl, hy.int, .inl (.of ha), h1, k.pure sF h2⟩ hs
    · obtain ⟨a, vs, rfl, ha, la, _⟩ := hx.tup sF
      obtain ⟨w, h1, h2⟩ := idx la e0
      exact ix_tup value slice pins s σ H _ _ v u Q I rx ry ⟨a, vs, _, w, rfl, hy.int, ha, h1, k.pure sF h2⟩ hs
    · split at e0
      · rename_i key hk
        split at e0
        · rename_i n
          obtain ⟨k1, k2, ds, rfl⟩ := keyT_some hk
          obtain ⟨a, xs, ep, rfl, ha, ak⟩ := hx.dct sF n
          obtain ⟨b', vs, rfl, hb, lb, fb⟩ := hy.tup sF
          cases rx
          cases ry
          obtain ⟨h1, h2, h3⟩ := dct_at I sF ha ak
          rcases ak.find key with ⟨z1, z2⟩ | ⟨d', b'', u', v', z1, z2, z3, z4⟩
          · rw [z1] at e0; cases e0
          · rw [z1] at e0
            cases e0
            exact tail_any (ops := [.ref a, .ref b']) h3.typeIs PySem.slot_dict_getitem.lookup (wpAny_getItem_heap (room8 hr) ⟨at_nested I sF _ _ _ _ (.tup fb lb) k1 rfl, k2⟩ h3 z2 ⟨v', H, I.tok _, z3, k.pure sF z4⟩) hs
        · cases e0
      · cases e0
    · cases e0
theorem e_ix (ok : POk (pmOf X cls)) (hr : X.A.units + 64 < cLine) (ha : PE X a (tE (pmOf X cls) P fa)) (hb : PE X b (tE (pmOf X cls) P fb)) (hs : PlainIx b) : PE X (.Subscript a b pos) (tE (pmOf X cls) P (fBin fa fb ixR)) :=
  (pe_ix (opr_ix hr) ha hb hs).weak fun _ _ _ h => seq2 ok h
end
end VL

set_option Elab.async false
set_option linter.all false
set_option maxRecDepth 100000
/-! V12: slices, isinstance, list.count, list.pop, sorted(d.values()). -/
namespace VL
open PySem PySem.Spec PySem.W PyProof.Rows L2 StX

section
variable {X : Cx} {cls : Nat → Option (Addr × List Str)} {P : Pr} {a b e : Expr} {fa fb : FE} {fl fh : FO} {pos p2 apos cpos p0 : Pos}
/-! ### slices -/
def tO (p : Pm) (P : Pr) (f : FO) : TO := fun σ H Q => ∃ F ρ fp, Rep p P F H ρ σ fp ∧ wpR (Exc P F H (Wn ρ fp)) (fun x =>
  ∀ F' H' fp', Ext F H (Wn ρ fp) F' H' (Wn x.2 fp') → Rep p P F' H' x.2 σ fp' → Q x.1 H') (f ρ)
theorem tO.go {p : Pm} {F0 H0 F H : Hp} {W0 : Addr → Prop} {ρ : Ev} {σ : L2.St} {fp : Nat → List Addr} {f : FO} {G : Option Int × Ev → Prop} {Q : Option Int → Hp → Prop} (E : Ext F0 H0 W0 F H (Wn ρ fp)) (R : Rep p P F H ρ σ fp) (h : wpR (Exc P F0 H0 W0) G (f ρ))
    (k : ∀ x, G x → ∀ F' H' fp', Ext F0 H0 W0 F' H' (Wn x.2 fp') → Ext F H (Wn ρ fp) F' H' (Wn x.2 fp') → Rep p P F' H' x.2 σ fp' → Q x.1 H') : tO p P f σ H Q :=
  ⟨F, ρ, fp, R, wpR_mono h (fun _ e => e.ext E) fun x g F' H' fp' E' R' => k x g F' H' fp' (E.trans E') E' R'⟩
theorem PO.weak {o : Option Expr} {t t' : TO} (h : PO X o t) (f : ∀ σ H Q, t' σ H Q → t σ H Q) : PO X o t' := ⟨fun pins s σ H Q I q => h.run pins s σ H Q I (f σ H Q q)⟩
theorem p_none : PO X none (tO (pmOf X cls) P fNoPart) := PO.weak po_none fun σ H Q ⟨F, ρ, fp, R, h⟩ => h F H fp Ext.refl R
theorem p_some (ha : PE X a (tE (pmOf X cls) P fa)) : PO X (some a) (tO (pmOf X cls) P (fPart fa)) := by
  refine PO.weak (po_some ha) fun σ H Q ⟨F, ρ, fp, R, h⟩ => ?_
  unfold fPart at h
  simp only [wpR_bind] at h
  refine tE.go Ext.refl R h fun x g F1 H1 fp1 v E1 _ R1 V1 => ?_
  obtain ⟨r, ρ1⟩ := x
  simp only at g
  split at g
  · split at g
    · cases V1
      exact ⟨_, rfl, g F1 H1 fp1 E1 R1⟩
    · exact g.elim
  · exact g.elim
def rSl (p : Pm) : V → Option Int → Option Int → Hp → VK → Prop := fun x lo hi H Q => ∃ F dx rv, Same F H ∧ AtH p F H dx x ∧ cutR dx lo hi = some rv ∧ OpV p F H rv Q
theorem AtL.cut {p : Pm} {F : Hp} {ds : List D} {vs : List V} (l : AtL p F ds vs) (lo hi : Option Int) : AtL p F (cut ds lo hi) (cutV vs lo hi) := by
  have e := l.length
  unfold VL.cut cutV
  show AtL p F (List.take (sIx ds.length ds.length hi - sIx ds.length 0 lo) (List.drop (sIx ds.length 0 lo) ds)) (List.take (sIx vs.length vs.length hi - sIx vs.length 0 lo) (List.drop (sIx vs.length 0 lo) vs))
  rw [e]
  exact (l.drop _).take _
theorem cut_whole {ds : List D} {lo hi : Option Int} (h : HT.sIx ds.length 0 lo = 0 ∧ HT.sIx ds.length ds.length hi = ds.length) : cut ds lo hi = ds := by
  unfold VL.cut
  show List.take (HT.sIx ds.length ds.length hi - HT.sIx ds.length 0 lo) (List.drop (HT.sIx ds.length 0 lo) ds) = ds
  rw [h.1, h.2]
  simp
theorem slr : SlR X (rSl (pmOf X cls)) := by
  intro pins s σ H x v vl vu lo hi sl Q I rx hs pl pu ⟨F, dx, rv, sF, hx, e, k⟩
  unfold cutR at e
  split at e
  · cases e
    obtain ⟨a, vs, rfl, ha, la⟩ := hx.lst sF
    exact sl_list pins s σ H _ v vl vu lo hi sl Q I rx hs pl pu ⟨a, vs, rfl, .inl (.of ha), fun q hq => k.newFr sF hq (.lst upd_same (la.cut lo hi))⟩
  · cases e
    obtain ⟨a, vs, rfl, ha, la, fa⟩ := hx.tup sF
    refine sl_tupA pins s σ H _ v vl vu lo hi sl Q I rx hs pl pu ⟨a, vs, rfl, ha, fun hw => ?_, fun hw q hq => k.newSh sF hq (.tup (.of upd_same) ((la.cut lo hi).mono (same_upd (sF.none hq))))⟩
    rw [← la.length] at hw
    rw [cut_whole hw] at k
    exact k.pure sF (.tup fa la)
  · cases e
theorem e_slc {lo hi : Option Expr} (ok : POk (pmOf X cls)) (ha : PE X a (tE (pmOf X cls) P fa)) (hl : PO X lo (tO (pmOf X cls) P fl)) (hh : PO X hi (tO (pmOf X cls) P fh)) : PE X (.Subscript a (.Slice lo hi none p2) pos) (tE (pmOf X cls) P (fSlc fa fl fh)) := by
  refine (pe_slice (slr (cls := cls)) ha hl hh).weak fun σ H Q ⟨F, ρ, fp, R, h⟩ => ?_
  unfold fSlc at h
  simp only [wpR_bind, wpR_lift, wpR_pure] at h
  refine tE.go Ext.refl R h fun x g1 F1 H1 fp1 v E1 _ R1 V1 => ?_
  obtain ⟨r, h3, g1⟩ := g1
  obtain ⟨F1', m1, R1', S1, _⟩ := op_ok ok R1 V1 h3
  have E1' := m1 (fun _ h => h) E1
  refine tO.go E1' R1' g1 fun l g2 F2 H2 fp2 E2 Er2 R2 => ?_
  refine tO.go E2 R2 g2 fun u g3 F3 H3 fp3 E3 Er3 R3 => ?_
  obtain ⟨d, h4, rv, h5, k⟩ := g3
  exact ⟨F3, d, rv, R3.sub, get_ok R3 (S1.mono (Er2.same.trans Er3.same)) h4, h5, opV_of E3 R3 k⟩
/-! ### l.count(x), l.pop(i) -/
theorem ty_lst : TyOk X "list" (fun x H => ∃ a vs, x = .ref a ∧ H a = some (.lst vs)) := by
  intro pins σ H s x v I r ⟨a, vs, e, h⟩
  subst e
  cases r
  obtain ⟨its, n, _, ho, _⟩ := I.lst h
  refine ⟨⟨_, ho, rfl⟩, fun b e => ?_⟩
  cases e
  exact ⟨_, ho, rfl⟩
def rMeth (p : Pm) (g : D → D → Option Rv) : V → List V → Hp → VK → Prop := fun x xs H Q => ∃ y, xs = [y] ∧ rB p g x y H Q
theorem lst_of {p : Pm} {F H : Hp} {d : D} {v : V} (s : Same F H) (h : AtH p F H d v) (e : isLst d = true) : ∃ a vs, v = .ref a ∧ H a = some (.lst vs) := by
  cases d with
  | list ds =>
    obtain ⟨a, vs, e1, e2, _⟩ := h.lst s
    exact ⟨a, vs, e1, e2⟩
  | _ => cases e
theorem seqMeth {p : Pm} {fa fb : FE} {g : D → D → Option Rv} {σ : L2.St} {H : Hp} {Q : VK} (ok : POk p) (h : tE p P (fMeth fa fb g) σ H Q) :
    tMG (fun x H => ∃ a vs, x = .ref a ∧ H a = some (.lst vs)) (rMeth p g) (tE p P fa) (tCons (tE p P fb) tNil) σ H Q := by
  obtain ⟨F, ρ, fp, R, h⟩ := h
  unfold fMeth at h
  simp only [wpR_bind, wpR_lift] at h
  refine tE.go Ext.refl R h fun x g1 F1 H1 fp1 v E1 _ R1 V1 => ?_
  obtain ⟨a, h3, c0, h30, g1⟩ := g1
  obtain ⟨F1', m1, R1', S1, _⟩ := op_ok ok R1 V1 h3
  have E1' := m1 (fun _ h => h) E1
  split at g1
  · rename_i hl
    simp only [wpR_bind, wpR_lift, wpR_pure] at g1
    refine ⟨lst_of R1'.sub (get_ok R1' S1 h30) hl, ?_⟩
    refine tE.go E1' R1' g1 fun y g2 F2 H2 fp2 w E2 Er R2 V2 => ?_
    obtain ⟨b, h4, c, h5, d, h6, r, h7, k⟩ := g2
    obtain ⟨F2', m2, R2', S2, s2⟩ := op_ok ok R2 V2 h4
    exact ⟨_, rfl, F2', c, d, r, R2'.sub, get_ok R2' (S1.mono (Er.same.trans s2)) h5, get_ok R2' S2 h6, h7, opV_of (m2 E1'.there E2) R2' k⟩
  · exact g1.elim
theorem mt_cnt (hr : X.A.units + 64 < cLine) : MtR X "list.count" (rMeth (pmOf X cls) cntR) := by
  intro pins s σ H x xs v us Q I rx rxs ⟨y, ey, F, dx, dy, rv, sF, hx, hy, e, k⟩
  subst ey
  obtain ⟨u, rfl, ru⟩ := vals1 rxs
  unfold cntR at e
  split at e
  · rename_i es
    split at e
    · rename_i q
      cases e
      obtain ⟨a, vs, rfl, ha, la⟩ := hx.lst sF
      cases rx
      obtain ⟨its, rv, hl, hz⟩ := I.list (.of ha)
      obtain ⟨as, ra⟩ := readsAll_of I sF la (okD_all q.2).1 rv
      obtain ⟨bs, rb⟩ := Dp.reads I _ y u (hy.dp sF (okD_lay q.1)) ru
      have d2 := (okD_all q.2).2
      exact PySem.SeqAt.count_list_data hl.isList (as := as) (by simpa using ra) rb (PyData.plainAll_of_canLay0 _ (okD_all q.2).1) (PyData.plain_of_canLay0 _ (okD_lay q.1)) (by have := Nat.min_le_left (PyData.depthAll es) dy.depth; omega) ⟨.int _, H, I.tok _, ⟨_, rfl⟩, k.pure sF (.int _)⟩
    · cases e
  · cases e
/-- a method's call, seen in the text -/
structure MOk (X : Cx) (o : Expr) (name : Str) (apos : Pos) (e : Expr) (cpos : Pos) : Prop where
  base : attributeBase o name X.env (eval o X.env) = eval o X.env
  star : starEach [e] X.env = [(false, eval e X.env)]
  line : (apos.endLine == cpos.line) = true
theorem MOk.few {X : Cx} {o e : Expr} {name : Str} {apos cpos : Pos} (m : MOk X o name apos e cpos) : ((backTo cpos (starEach [e] X.env)).all (fun x => !x.1) && (backToKw cpos (keywordEach [] X.env)).all (fun x => x.1.isSome)
      && decide (([e] : List Expr).length + ([] : List Keyword).length + (if ([] : List Keyword).isEmpty then 0 else 1) < 30)) = true := by
  rw [m.star]
  rfl
theorem pa_one {ta : TE} (h : PE X e ta) (hs : starEach [e] X.env = [(false, eval e X.env)]) : PA X [e] (tCons ta tNil) := pa_cons h pa_nil (by rw [hs]; rfl)
theorem e_cnt (ok : POk (pmOf X cls)) (hr : X.A.units + 64 < cLine) (ha : PE X a (tE (pmOf X cls) P fa)) (hb : PE X b (tE (pmOf X cls) P fb)) (m : MOk X a "count" apos b cpos) : PE X (.Call (.Attribute a "count" apos) [b] [] cpos) (tE (pmOf X cls) P (fMeth fa fb cntR)) :=
  (pe_mG ty_lst PySem.F.plainAttrs_list PySem.F.slot_list_count PySem.F.type_list_count (mt_cnt (cls := cls) hr) ha (pa_one hb m.star) m.base m.few m.line (by rw [m.star]; rfl) rfl).weak fun _ _ _ h => seqMeth ok h
/-- what the slot i owns is written -/
theorem Rep.write {p : Pm} {F H : Hp} {ρ : Ev} {σ : L2.St} {fp : Nat → List Addr} {i : Nat} {d d' : D} {x : Addr} {o : HO} (R : Rep p P F H ρ σ fp) (e : ρ[i]? = some (.ow d)) (hx : x ∈ fp i) (ho : ∀ v, σ[i]? = some (some v) → Own p F (upd H x o) d' v (fp i)) :
    Ext F H (Wn ρ fp) F (upd H x o) (Wn (ρ.set i (.ow d')) fp) ∧ Rep p P F (upd H x o) (ρ.set i (.ow d')) σ fp := by
  have hil : i < ρ.length := (List.getElem?_eq_some_iff.mp e).1
  have get : ∀ (j : Nat) (w : SV), (ρ.set i (.ow d'))[j]? = some w → (j = i ∧ w = .ow d') ∨ (j ≠ i ∧ ρ[j]? = some w) := fun j w h => by
    by_cases q : i = j
    · subst q
      rw [List.getElem?_set_self hil] at h
      exact .inl ⟨rfl, (Option.some.inj h).symm⟩
    · rw [List.getElem?_set_ne q] at h
      exact .inr ⟨fun z => q z.symm, h⟩
  have wx : Wn ρ fp x := ⟨i, d, e, hx⟩
  obtain ⟨v0, hv0, o0, n0⟩ := R.ow i d e
  have nF : F x = none := n0 x hx
  have ne : ∀ (j : Nat) (d2 : D), j ≠ i → ρ[j]? = some (.ow d2) → ∀ a ∈ fp j, a ≠ x := fun j d2 hj h2 a ha z => R.dj j i d2 d hj h2 e a ha (z ▸ hx)
  refine ⟨⟨Same.refl, fun a u h n => ?_, fun a h => ?_, fun a h => .inl h, fun a w => ?_⟩, ⟨fun a u h => ?_, by rw [List.length_set]; exact R.len, fun j d2 h => ?_, fun j d2 h => ?_, fun j k d2 d3 hjk h1 h2 => ?_, fun q hq d2 h => ?_⟩⟩
  · have z : a ≠ x := fun z => n (by rw [z]; exact wx)
    rw [upd_ne z]
    exact h
  · by_cases z : a = x
    · rw [z, upd_same]
      simp
    · rw [upd_ne z]
      exact h
  · obtain ⟨j, d2, h, ha⟩ := w
    rcases get j _ h with ⟨rfl, _⟩ | ⟨_, h⟩
    · exact .inl ⟨j, d, e, ha⟩
    · exact .inl ⟨j, d2, h, ha⟩
  · rw [upd_ne (fun z => by rw [z, nF] at h; cases h)]
    exact R.sub a u h
  · rcases get j _ h with ⟨_, z⟩ | ⟨_, h⟩
    · cases z
    · exact R.sh j d2 h
  · rcases get j _ h with ⟨rfl, z⟩ | ⟨hj, h⟩
    · cases z
      exact ⟨v0, hv0, ho v0 hv0, n0⟩
    · obtain ⟨v, h1, h2, h3⟩ := R.ow j d2 h
      refine ⟨v, h1, h2.keep Same.refl fun a ha => ?_, h3⟩
      rw [upd_ne (ne j d2 hj h a ha)]
  · have back : ∀ (j : Nat) (d2 : D), (ρ.set i (.ow d'))[j]? = some (.ow d2) → ∃ d4, ρ[j]? = some (.ow d4) := fun j d2 h => by
      rcases get j _ h with ⟨rfl, _⟩ | ⟨_, h⟩
      · exact ⟨d, e⟩
      · exact ⟨d2, h⟩
    obtain ⟨d4, h1⟩ := back j d2 h1
    obtain ⟨d5, h2⟩ := back k d3 h2
    exact R.dj j k d4 d5 hjk h1 h2
  · rcases get q.1 _ h with ⟨z, _⟩ | ⟨_, h⟩
    · exact R.prm q hq d (z ▸ e)
    · exact R.prm q hq d2 h
theorem slotLst_some {i : Nat} {ρ : Ev} (h : slotLst i ρ = true) : ∃ ds, ρ[i]? = some (.ow (.list ds)) := by
  unfold slotLst at h
  split at h
  · rename_i d e
    cases d with
    | list ds => exact ⟨ds, e⟩
    | _ => cases h
  · cases h
theorem Own.lstI {p : Pm} {F H : Hp} {ds : List D} {v : V} {q : List Addr} (h : Own p F H (.list ds) v q) : ∃ a vs, v = .ref a ∧ q = [a] ∧ H a = some (.lst vs) ∧ AtL p F ds vs := by
  cases h with
  | lst h l => exact ⟨_, _, rfl, rfl, h, l⟩
theorem seqIndex_nn {i : Int} {n : Nat} (h0 : 0 ≤ i) (h1 : i < n) : seqIndex? i n = some i.toNat := (ixN_seq (j := i.toNat) (by unfold L2.ixN; rw [if_pos h0, if_pos h1])).1
theorem e_pop {i : Nat} {x : Str} (ok : POk (pmOf X cls)) (hN : X.N[i]? = some x) (hv : Vis X.env.scope x) (hd : (x == ("__debug__" : Str)) = false) (hcd : (x == ("__classdict__" : Str)) = false) (hb : PE X b (tE (pmOf X cls) P fb)) (m : MOk X (.Name x p0) "pop" apos b cpos) :
    PE X (.Call (.Attribute (.Name x p0) "pop" apos) [b] [] cpos) (tE (pmOf X cls) P (fPop i fb)) := by
  refine (pe_mG ty_lst PySem.F.plainAttrs_list PySem.F.slot_list_pop PySem.F.type_list_pop mt_popAt (pe_var hN hv hd hcd) (pa_one hb m.star) m.base m.few m.line (by rw [m.star]; rfl) rfl).weak fun σ H Q ⟨F, ρ, fp, R, h⟩ => ?_
  unfold fPop at h
  split at h
  · rename_i hs
    obtain ⟨ds0, e0⟩ := slotLst_some hs
    obtain ⟨v, h1, h2, h3⟩ := R.ow _ _ e0
    obtain ⟨a, vs, rfl, _, ha, _⟩ := h2.lstI
    refine ⟨_, h1, ⟨a, vs, rfl, ha⟩, ?_⟩
    simp only [wpR_bind, wpR_lift, wpR_pure] at h
    refine tE.go Ext.refl R h fun y g F1 H1 fp1 w E1 _ R1 V1 => ?_
    obtain ⟨r, ρ1⟩ := y
    obtain ⟨z, hz, k⟩ := g
    simp only at hz
    unfold popR at hz
    split at hz
    · rename_i j ds e1 _
      split at hz
      · rename_i hj
        cases e2 : ds[j.toNat]? with
        | none => rw [e2] at hz; cases hz
        | some d =>
          rw [e2] at hz
          cases hz
          cases V1
          obtain ⟨v', g1, g2, g3⟩ := R1.ow _ _ e1
          rw [h1] at g1
          cases g1
          obtain ⟨a', vs', e3, e4, ha', la⟩ := g2.lstI
          cases e3
          obtain ⟨y, hy, ay⟩ := la.get e2
          obtain ⟨E2, R2⟩ := R1.write (d' := .list (ds.eraseIdx j.toNat)) (x := a) (o := .lst (vs'.eraseIdx j.toNat)) e1 (by rw [e4]; simp) fun v hv => by
            rw [h1] at hv
            cases hv
            rw [e4]
            exact .lst upd_same (la.eraseIdx _)
          have hl := la.length
          refine ⟨a, vs', j, j.toNat, y, rfl, rfl, ha', by omega, ?_, seqIndex_nn hj.1 (by rw [← hl]; exact hj.2.1), hy, k F1 _ fp1 y (E1.trans E2) R2 ay⟩
          have := hj.2.1
          have h3 : ds.length ≤ 1000000 := hj.2.2
          omega
      · cases hz
    · cases hz
  · exact h.elim
end
end VL

set_option Elab.async false
set_option linter.all false
set_option maxRecDepth 100000
/-! V13: isinstance, sorted(d.values()), dict displays. -/
namespace VL
open PySem PySem.Spec PySem.W PyProof.Rows L2 StX

/-! ### isinstance -/
def tyNames : List String := ["NoneType", "bool", "int", "str", "list", "tuple"]
/-- what is known of the own classes -/
structure KOk (K : Frag) (cls : Nat → Option (Addr × List Str)) : Prop where
  cl : ∀ c C ns, cls c = some (C, ns) → Cls K C
  ha : ∀ c C ns, cls c = some (C, ns) → PySem.W.findIn K (.ref C) "__class__" = some (some (.builtin "object.__class__"))
  hn : PySem.W.specialIn K (.builtin "object.__class__") "__get__" = some (some (.builtin "getset_descriptor.__get__"))
  ht : PySem.W.takesIn K (.builtin "object.__class__") = some true
  hm : ∀ c C ns, cls c = some (C, ns) → PySem.W.mroIn K C (.type "object") = some true
  k1 : ∀ c C ns, cls c = some (C, ns) → ∀ T ∈ tyNames, kitOne K (.type T) (.ref C) = some false ∧ kitOne K (.ref C) (.type T) = some false
  k2 : ∀ c C ns c' C' ns', cls c = some (C, ns) → cls c' = some (C', ns') → kitOne K (.ref C) (.ref C') = some (decide (c = c'))
def tyVal (cls : Nat → Option (Addr × List Str)) : Ty → Option Value
  | .int => some (.type "int")
  | .bool => some (.type "bool")
  | .str => some (.type "str")
  | .tuple => some (.type "tuple")
  | .list => some (.type "list")
  | .dict => none
  | .cls c => (cls c).map fun x => .ref x.1
section
variable {X : Cx} {cls : Nat → Option (Addr × List Str)} {P : Pr} {a b e : Expr} {fa fb : FE} {pos p2 apos cpos p0 p1 : Pos}
theorem kitB_all : ∀ T ∈ tyNames, ∀ U ∈ tyNames, kitB T U = some (T == U || (T == "bool" && U == "int")) := by decide +kernel
/-- the type that a datum has -/
theorem tyX_of (ok : KOk X.K cls) {F H : Hp} {d : D} {x : V} (s : Same F H) (h : AtH (pmOf X cls) F H d x) (hd : istOk d = true) :
    ∃ t, TyX X.K H x t ∧ ∀ ty u, tyVal cls ty = some u → kitOne X.K t u = some (isTy d ty) := by
  have base : ∀ T ∈ tyNames, (∀ ty U, tyVal cls ty = some (.type U) → isTy d ty = (T == U || (T == "bool" && U == "int"))) → (∀ c, isTy d (.cls c) = false) → ∀ ty u, tyVal cls ty = some u → kitOne X.K (.type T) u = some (isTy d ty) := by
    intro T hT hb hc ty u hu
    cases ty with
    | cls c =>
      simp only [tyVal] at hu
      cases e : cls c with
      | none => rw [e] at hu; cases hu
      | some x =>
        rw [e] at hu
        cases hu
        rw [hc]
        exact (ok.k1 c x.1 x.2 e T hT).1
    | dict => cases hu
    | int => cases hu; rw [hb .int "int" rfl]; exact kit_ty (kitB_all T hT "int" (by decide))
    | bool => cases hu; rw [hb .bool "bool" rfl]; exact kit_ty (kitB_all T hT "bool" (by decide))
    | str => cases hu; rw [hb .str "str" rfl]; exact kit_ty (kitB_all T hT "str" (by decide))
    | tuple => cases hu; rw [hb .tuple "tuple" rfl]; exact kit_ty (kitB_all T hT "tuple" (by decide))
    | list => cases hu; rw [hb .list "list" rfl]; exact kit_ty (kitB_all T hT "list" (by decide))
  have hcase : ∀ (ty : Ty) (U : String), tyVal cls ty = some (.type U) → (ty = .int ∧ U = "int") ∨ (ty = .bool ∧ U = "bool") ∨ (ty = .str ∧ U = "str") ∨ (ty = .tuple ∧ U = "tuple") ∨ (ty = .list ∧ U = "list") := by
    intro ty U h
    cases ty <;> simp [tyVal] at h <;> simp [h]
  cases d with
  | none => rw [h.non]; exact ⟨_, .base .non, base _ (by decide) (fun ty U h => by rcases hcase ty U h with ⟨rfl, rfl⟩ | ⟨rfl, rfl⟩ | ⟨rfl, rfl⟩ | ⟨rfl, rfl⟩ | ⟨rfl, rfl⟩ <;> simp [isTy]) fun c => rfl⟩
  | bool k => rw [h.bl]; exact ⟨_, .base (.bl k), base _ (by decide) (fun ty U h => by rcases hcase ty U h with ⟨rfl, rfl⟩ | ⟨rfl, rfl⟩ | ⟨rfl, rfl⟩ | ⟨rfl, rfl⟩ | ⟨rfl, rfl⟩ <;> simp [isTy]) fun c => rfl⟩
  | int i => rw [h.int]; exact ⟨_, .base (.int i), base _ (by decide) (fun ty U h => by rcases hcase ty U h with ⟨rfl, rfl⟩ | ⟨rfl, rfl⟩ | ⟨rfl, rfl⟩ | ⟨rfl, rfl⟩ | ⟨rfl, rfl⟩ <;> simp [isTy]) fun c => rfl⟩
  | str i => rw [h.str]; exact ⟨_, .base (.str i), base _ (by decide) (fun ty U h => by rcases hcase ty U h with ⟨rfl, rfl⟩ | ⟨rfl, rfl⟩ | ⟨rfl, rfl⟩ | ⟨rfl, rfl⟩ | ⟨rfl, rfl⟩ <;> simp [isTy]) fun c => rfl⟩
  | list ds =>
    obtain ⟨a, vs, rfl, ha, _⟩ := h.lst s
    exact ⟨_, .base (.lst ha), base _ (by decide) (fun ty U h => by rcases hcase ty U h with ⟨rfl, rfl⟩ | ⟨rfl, rfl⟩ | ⟨rfl, rfl⟩ | ⟨rfl, rfl⟩ | ⟨rfl, rfl⟩ <;> simp [isTy]) fun c => rfl⟩
  | tuple ds =>
    obtain ⟨a, vs, rfl, ha, _⟩ := h.tup s
    refine ⟨.type "tuple", ?_, base _ (by decide) (fun ty U h => by rcases hcase ty U h with ⟨rfl, rfl⟩ | ⟨rfl, rfl⟩ | ⟨rfl, rfl⟩ | ⟨rfl, rfl⟩ | ⟨rfl, rfl⟩ <;> simp [isTy]) fun c => rfl⟩
    rcases ha with (ha | ⟨o, ha⟩) | ⟨o, its, n, h1, h2, _⟩
    · exact .base (.tup ha)
    · exact .fTuple ha
    · exact .kTuple h1 h2
  | dict kvs =>
    simp only [istOk] at hd
    split at hd
    · rename_i ci fs e
      have hd' : ci ≠ 0 ∧ ci ≠ 99 := by simpa using hd
      have : ∃ c : Nat, ci = (c : Int) ∧ c ≠ 0 ∧ c ≠ 99 := by
        have pl : plainD kvs = true → False := fun z => by
          unfold insOf at e
          split at e
          · rename_i q
            cases q
            cases z
          · cases e
        rcases h with h | ⟨q, h⟩
        · cases h with
          | scr => have e1 : (99 : Int) = ci := congrArg Prod.fst (Option.some.inj ((insOf_ins 99 _).symm.trans e)); omega
          | dct _ m _ => exact (pl m).elim
          | @ins a C dx c ns fs' ds h1 h2 h3 h4 h5 => have e1 : (c : Int) = ci := congrArg Prod.fst (Option.some.inj ((insOf_ins c _).symm.trans e)); exact ⟨c, e1.symm, by omega, h3⟩
        · cases h with
          | dct _ m _ => exact (pl m).elim
          | @ins a C dx c ns fs' ds h1 h2 h3 h4 h5 => have e1 : (c : Int) = ci := congrArg Prod.fst (Option.some.inj ((insOf_ins c _).symm.trans e)); exact ⟨c, e1.symm, h1⟩
          | tape => have e1 : (0 : Int) = ci := congrArg Prod.fst (Option.some.inj ((insOf_ins 0 _).symm.trans e)); omega
      obtain ⟨c, ec, hc⟩ := this
      obtain ⟨a, C, dx, ns, fv, rfl, h2, h3, _⟩ := h.ins s e ec hc
      have h3 : cls c = some (C, ns) := h3
      have npl : plainD kvs = false := by
        unfold insOf at e
        split at e
        · rename_i q
          cases q
          rfl
        · cases e
      refine ⟨.ref C, .base (.ins h2 (ok.cl _ _ _ h3) (ok.ha _ _ _ h3) ok.hn ok.ht (ok.hm _ _ _ h3)), fun ty u hu => ?_⟩
      have k1 := ok.k1 c C ns h3
      cases ty with
      | cls c' =>
        simp only [tyVal] at hu
        cases e' : cls c' with
        | none => rw [e'] at hu; cases hu
        | some x =>
          rw [e'] at hu
          cases hu
          rw [ok.k2 c C ns c' x.1 x.2 h3 e']
          unfold isTy
          simp only [e, ec]
          congr 1
          by_cases z : c = c'
          · subst z; simp
          · have : ¬ ((c : Int) = (c' : Int)) := by omega
            simp [z, this]
      | dict => cases hu
      | int => cases hu; exact (k1 "int" (by decide)).2
      | bool => cases hu; exact (k1 "bool" (by decide)).2
      | str => cases hu; exact (k1 "str" (by decide)).2
      | tuple => cases hu; exact (k1 "tuple" (by decide)).2
      | list => cases hu; exact (k1 "list" (by decide)).2
    · cases hd
/-- a class as it is written -/
structure TyE (X : Cx) (cls : Nat → Option (Addr × List Str)) (e : Expr) (ty : Ty) (c : V) (u : Value) : Prop where
  pe : PE X e (tC c)
  cv : ClsV c u
  val : tyVal cls ty = some u
theorem e_ist1 {ty : Ty} {c : V} {u : Value} (ok : POk (pmOf X cls)) (kok : KOk X.K cls) (hg : Gl X "isinstance") (hm : X.mg "isinstance" = none) (ha : PE X a (tE (pmOf X cls) P fa)) (ht : TyE X cls b ty c u)
    (hs : starEach [a, b] X.env = [(false, eval a X.env), (false, eval b X.env)]) (hs2 : starEach [b] X.env = [(false, eval b X.env)]) : PE X (.Call (.Name "isinstance" p0) [a, b] [] pos) (tE (pmOf X cls) P (fUn fa (istR [ty]))) := by
  refine (pe_callB call_isi hg hm (by decide +kernel) (pa_cons ha (pa_cons ht.pe pa_nil (by rw [hs2]; rfl)) (by rw [hs, hs2])) (by decide) (by decide) (by rw [hs, hs2]) (by rw [hs2]; rfl)).weak fun σ H Q h => ?_
  refine tE_mono (fun v H1 hq => ?_) _ _ (seq1 ok h)
  obtain ⟨F, dx, rv, s, h1, h2, k⟩ := hq
  unfold istR at h2
  split at h2
  · rename_i hd
    cases h2
    obtain ⟨t, ty1, hk⟩ := tyX_of kok s h1 hd
    exact ⟨v, c, t, u, _, rfl, ht.cv, ty1, hk ty u ht.val, by simpa using k.pure s (.bl _)⟩
  · cases h2
theorem e_ist2 {ty ty' : Ty} {b2 : Expr} {c c' : V} {u u' : Value} {kk : Nat} (ok : POk (pmOf X cls)) (kok : KOk X.K cls) (hg : Gl X "isinstance") (hm : X.mg "isinstance" = none) (ha : PE X a (tE (pmOf X cls) P fa)) (ht : TyE X cls b ty c u) (ht' : TyE X cls b2 ty' c' u')
    (hs : starEach [a, .Tuple [b, b2] kk p1] X.env = [(false, eval a X.env), (false, eval (.Tuple [b, b2] kk p1) X.env)]) (hs2 : starEach [b, b2] X.env = [(false, eval b X.env), (false, eval b2 X.env)]) (hs3 : starEach [b2] X.env = [(false, eval b2 X.env)]) :
    PE X (.Call (.Name "isinstance" p0) [a, .Tuple [b, b2] kk p1] [] pos) (tE (pmOf X cls) P (fUn fa (istR [ty, ty']))) := by
  refine (pe_callB call_isiT hg hm (by decide +kernel) (pa_cons ha (pa_cons (pe_tup (pa_cons ht.pe (pa_cons ht'.pe pa_nil (by rw [hs3]; rfl)) (by rw [hs2, hs3]))) pa_nil rfl) (by rw [hs]; rfl)) (by decide) (by decide) (by rw [hs]; rfl) rfl).weak fun σ H Q h => ?_
  refine tE_mono (fun v H1 hq => ?_) _ _ (seq1 ok h)
  obtain ⟨F, dx, rv, s, h1, h2, k⟩ := hq
  unfold istR at h2
  split at h2
  · rename_i hd
    cases h2
    refine ⟨by show 2 ≤ sizeLine; decide, fun q hq => ?_⟩
    have s2 : Same F (upd H1 q (.tup [c, c'])) := s.trans (same_upd hq)
    have h1' : AtH (pmOf X cls) F (upd H1 q (.tup [c, c'])) dx v := by
      rcases h1 with h1 | ⟨q', o⟩
      · exact .inl h1
      · refine .inr ⟨q', o.keep Same.refl fun a ha => ?_⟩
        obtain ⟨w, hw⟩ := o.there a ha
        rw [hw, upd_ne (ne_of_none hw hq), hw]
    obtain ⟨t, ty1, hk⟩ := tyX_of kok s2 h1' hd
    refine ⟨v, q, [c, c'], t, [u, u'], _, rfl, upd_same, .cons ht.cv (.cons ht'.cv .nil), ty1, kitAny_cons (hk ty u ht.val) (r := isTy dx ty || isTy dx ty') (fun e => kitAny_cons (hk ty' u' ht'.val) (fun e' => by rw [e, e']; rfl) fun e' => by rw [e']; simp) fun e => by rw [e]; rfl, ?_⟩
    have := (show OpV (pmOf X cls) F H1 (.sh (.bool (isTy dx ty || isTy dx ty'))) Q from by simpa [bl] using k)
    exact this F _ _ (Nw.pushH hq) s2 (.bl _)
  · cases h2
/-! ### sorted(d.values()) -/
def valsO (q a : Addr) : HO := .ext fun h => h.IsValuesView q a
def rVals (p : Pm) : V → List V → Hp → VK → Prop := fun x xs H Q => ∃ a es ep, x = .ref a ∧ xs = [] ∧ H a = some (dO p.P p.w a es ep) ∧ ∀ q, H q = none → Q (.ref q) (upd H q (valsO q a))
theorem ty_dO : TyOk X "dict" (fun x H => ∃ a es ep, x = .ref a ∧ H a = some (dO X.prog X.w a es ep)) := by
  intro pins σ H s x v I r ⟨a, es, ep, e, h⟩
  subst e
  cases r
  obtain ⟨es', h1, h2, ⟨o, h3, h4, h5⟩, h6⟩ := dct_raw I h
  exact ⟨⟨o, h3, h4.1⟩, fun b e => by cases e; exact ⟨o, h3, h4.2.1⟩⟩
theorem mt_vals : MtR X "dict.values" (rVals (pmOf X cls)) := by
  intro pins s σ H x xs v us Q I rx rxs ⟨a, es, ep, e, e2, h, k⟩
  subst e e2
  cases rx
  cases rxs
  obtain ⟨es', h1, h2, hraw, h6⟩ := dct_raw I h
  obtain ⟨o, h3, h4, h5⟩ := id hraw
  refine call_meetsIn PySem.F.slot_dict_values ⟨o, h3, h4.1⟩ PySem.F.entry_dict_values (PySem.F.args_dict_values_1 _) (meets_dict_values_raw a h1) ⟨⟨es', _, hraw⟩, ?_⟩
  refine ⟨.ref s.heap.objs.size, _, I.laid (t' := s.toks) (o := valsO s.heap.objs.size a) (fun b u e => Heap.get?_push_of_some _ e) (Nat.le_refl _) ?_, rfl, k _ (I.hok.fresh (Nat.le_refl _))⟩
  have z : (s.heap.push { cls := .type "dict_values", data := .fields #[.ref a] }).IsValuesView s.heap.objs.size a := ⟨_, Heap.get?_push_size _ rfl, rfl, rfl⟩
  obtain ⟨ob, e1, e2, e3⟩ := id z
  exact ⟨z, ⟨ob, e1⟩, fun g1 g2 ⟨ob', f1, f2, f3⟩ kp => ⟨ob', kp _ f1, f2, f3⟩⟩
def rSrt (p : Pm) : List V → Hp → VK → Prop := fun xs H Q => ∃ q a es ep kvs F, xs = [.ref q] ∧ H q = some (valsO q a) ∧ H a = some (dO p.P p.w a es ep) ∧ Same F H ∧ AtK p F kvs es ∧ sortOk (kvs.map (·.2)) = true ∧ OpV p F H (.fr (.list (sortD (kvs.map (·.2))))) Q
theorem cr_srt (hr : X.A.units + 64 < cLine) (hc : X.calm = true) : CallR X (.builtin "sorted") (rSrt (pmOf X cls)) := by
  intro pins s σ H xs us Q I rxs ⟨q, a, es, ep, kvs, F, e, hq, ha, sF, ak, ok, k⟩
  subst e
  obtain ⟨u, rfl, ru⟩ := vals1 rxs
  cases ru
  obtain ⟨es', h1, h2, hraw, h6⟩ := dct_raw I ha
  obtain ⟨hv, _⟩ := I.hok q _ hq
  obtain ⟨vs, l, rv⟩ := ak.vals
  have hs : es'.size = es.length := by rw [← Array.length_toList, h6, List.length_map]
  exact sorted_src_run hr (I.ok.hd hc) I sF (KdlSrc.rawValues (es := es') (ep := ep)) ⟨hv, hraw⟩ (by rw [List.length_map, ak.length, hs]) (ent_val h6 rv) l ok k
theorem e_bivS (ok : POk (pmOf X cls)) (hr : X.A.units + 64 < cLine) (hc : X.calm = true) (hg : Gl X "sorted") (hm : X.mg "sorted" = none) (ha : PE X a (tE (pmOf X cls) P fa)) (hb : attributeBase a "values" X.env (eval a X.env) = eval a X.env) (hl : (apos.endLine == cpos.line) = true) :
    PE X (.Call (.Name "sorted" p0) [.Call (.Attribute a "values" apos) [] [] cpos] [] pos) (tE (pmOf X cls) P (fUn fa (bivR .sorted))) := by
  refine (pe_callB (cr_srt (cls := cls) hr hc) hg hm (by decide +kernel) (pa_cons (pe_mG0 ty_dO PySem.F.plainAttrs_dict PySem.F.slot_dict_values PySem.F.type_dict_values (mt_vals (cls := cls)) ha hb hl) pa_nil rfl) (by decide) (by decide) rfl rfl).weak fun σ H Q h => ?_
  refine tE_mono (fun v H1 hq => ?_) _ _ (seq1 ok h)
  obtain ⟨F, dx, rv, s, h1, h2, k⟩ := hq
  unfold bivR at h2
  split at h2
  · rename_i kvs
    split at h2
    · rename_i n
      unfold biV at h2
      simp only at h2
      split at h2
      · rename_i so
        cases h2
        obtain ⟨x, es, ep, rfl, hx, ak⟩ := h1.dct s n
        refine ⟨⟨x, es, ep, rfl, hx⟩, x, es, ep, rfl, rfl, hx, fun q hq => ?_⟩
        have s2 : Same F (upd H1 q (valsO q x)) := s.trans (same_upd hq)
        refine ⟨q, x, es, ep, kvs, F, rfl, upd_same, by rw [upd_ne (ne_of_none hx hq)]; exact hx, s2, ak, so, fun F' H' w n' s' r => ?_⟩
        refine k F' H' w ((Nw.pushH hq).trans n') s' ?_
        obtain ⟨fp, o, hf⟩ := r
        exact ⟨fp, o, fun b hb => ⟨(hf b hb).1, by
          have z := (hf b hb).2
          by_cases e : b = q
          · rw [e]; exact hq
          · rw [upd_ne e] at z; exact z⟩⟩
      · cases h2
    · cases h2
  · cases h2
/-! ### dict displays -/
theorem dO_empty {H : Hp} (h : Heap) (hb : sysModules < h.objs.size) : ObjOk X.prog X.w H (h.push { cls := .type "dict", data := .dict #[] }) h.objs.size (dO X.prog X.w h.objs.size [] 0) := by
  have z : (h.push { cls := .type "dict", data := .dict #[] }).get? h.objs.size = some { cls := .type "dict", data := .dict #[] } := Heap.get?_push_size _ rfl
  refine ⟨⟨beq_eq_false_iff_ne.mpr (Ne.symm (Nat.ne_of_lt hb)), Nat.zero_le _, List.nodup_nil, _, #[], z, ⟨rfl, rfl, rfl⟩, rfl, rfl⟩, ⟨_, z⟩, fun g1 g2 ⟨q1, q2, q3, o, es, q4, q5, q6, q7⟩ kp => ⟨q1, q2, q3, o, es, kp _ q4, q5, q6, q7⟩⟩
theorem e_dic0 : PE X (.Dict [] [] pos) (tE (pmOf X cls) P fDic0) := ⟨fun pins s σ H Q I ⟨F, ρ, fp, R, h⟩ => by
  have hn := I.hok.fresh (Nat.le_refl s.heap.objs.size)
  obtain ⟨E2, R2, nF, nW⟩ := R.newH (o := dO X.prog X.w s.heap.objs.size [] 0) hn
  exact wpAny_Dict_empty ⟨.ref s.heap.objs.size, _, I.laid (a := s.heap.objs.size) (o := dO X.prog X.w s.heap.objs.size [] 0) (t' := s.toks) (fun _ _ q => Heap.get?_push_of_some _ q) (Nat.le_refl _) (dO_empty s.heap I.big), rfl,
    h F _ fp _ E2 R2 ⟨[s.heap.objs.size], .dct upd_same rfl .nil, fun b hb => by simp at hb; subst hb; exact ⟨nF, hn, nW⟩⟩⟩⟩
end
end VL

set_option Elab.async false
set_option linter.all false
set_option maxRecDepth 100000
/-! V14: writing a dict, {k: v}; what is walked. -/
namespace VL
open PySem PySem.Spec PySem.W PyProof.Rows L2 StX

section
variable {X : Cx} {cls : Nat → Option (Addr × List Str)} {P : Pr} {a b e : Expr} {fa fb fk fv : FE} {pos p2 apos cpos p0 p1 : Pos} {pins : List (Addr × Obj)} {σ : L2.St} {H F : Hp} {s : Shared}
theorem dO_write (I : L2.Inv X pins σ H s) {D : Addr} {xs ys : List (NestedKey × Addr × Value)} {h' : Heap} {t' : Nat} {ep : Nat} (hD : H D = some (dO X.prog X.w D xs ep)) (hm : h'.DictOfH (nestedKind X.prog X.w) D ys) (hs : Heap.SameBut D s.heap h') (hl : ys.length ≤ sizeLine) :
    ∃ ep', L2.Inv X pins σ (upd H D (dO X.prog X.w D ys ep')) { s with heap := h', toks := t' } := by
  obtain ⟨⟨h1, _⟩, _⟩ := I.hok D _ hD
  obtain ⟨o, es, ep, ho, hc, hd, he, his, hn⟩ := hm
  refine ⟨ep, I.write (x := D) (e := D) (by rw [hD]; trivial) (.inl rfl) (fun b u hb q => (hs.2 b hb).trans q) ⟨_, ho⟩ ?_⟩
  exact ⟨⟨h1, hl, hn, o, es, ho, hc, hd, he⟩, ⟨_, ho⟩, fun g1 g2 ⟨q1, q2, q3, o, es, q4, q5, q6, q7⟩ kp => ⟨q1, q2, q3, o, es, kp _ q4, q5, q6, q7⟩⟩
/-- one more entry, by a comprehension or a display -/
theorem dO_dictSet {E : Value → Shared → Prop} (I : L2.Inv X pins σ H s) (sF : Same F H) {D b : Addr} {kvs : List (VL.D × VL.D)} {xs : List (NestedKey × Addr × Value)} {kd : VL.D} {k : NestedKey} {u : Value} {Q : Unit → Shared → Prop} {ep : Nat} (hr : X.A.units + 64 < cLine) (hD : H D = some (dO X.prog X.w D xs ep)) (ak : AtK (pmOf X cls) F kvs xs)
    (hz : xs.length < sizeLine) (hk : At (pmOf X cls) F kd (.ref b)) (ke : keyOf kd = some k) (kn : k.depth ≤ 8) (h : ∀ s' ep', L2.Inv X pins σ (upd H D (dO X.prog X.w D (storedH xs k b u) ep')) s' → Q () s') : wpAny (model X.prog X.w) X.A (dictSet D (.ref b) u) Q E s := by
  obtain ⟨h1, h2, h3⟩ := dct_at I sF hD ak
  refine wpAny_dictSet_heap (knd := nestedKind X.prog X.w) (hsz := h2) (by show X.A.units + 8 < cLine; omega) ⟨at_nested I sF _ _ _ _ hk ke rfl, kn⟩ h3 fun h' hm hs => ?_
  obtain ⟨ep', I'⟩ := dO_write (t' := s.toks + (nestedKind X.prog X.w).draws k) I hD hm hs (by
    have := storedH_length xs k b u
    omega)
  exact h _ ep' I'
/-- an object of nobody is written -/
theorem Rep.free {p : Pm} {F0 H0 F H : Hp} {W0 : Addr → Prop} {ρ : Ev} {σ : L2.St} {fp : Nat → List Addr} {x : Addr} {o : HO} (E : Ext F0 H0 W0 F H (Wn ρ fp)) (R : Rep p P F H ρ σ fp) (n0 : H0 x = none) (nF : F x = none) (nW : ¬ Wn ρ fp x) :
    Ext F0 H0 W0 F (upd H x o) (Wn ρ fp) ∧ Rep p P F (upd H x o) ρ σ fp := by
  refine ⟨⟨E.same, fun a u h n => ?_, fun a h => ?_, E.newF, E.newW⟩, ⟨fun a u h => ?_, R.len, R.sh, fun j d h => ?_, R.dj, R.prm⟩⟩
  · rw [upd_ne (ne_of_none h n0)]
    exact E.keep a u h n
  · by_cases z : a = x
    · rw [z, upd_same]; simp
    · rw [upd_ne z]; exact E.there a h
  · rw [upd_ne (fun z => by rw [z, nF] at h; cases h)]
    exact R.sub a u h
  · obtain ⟨v, h1, h2, h3⟩ := R.ow j d h
    refine ⟨v, h1, h2.keep Same.refl fun a ha => ?_, h3⟩
    have z : a ≠ x := fun z => nW (by rw [← z]; exact ⟨j, d, h, ha⟩)
    rw [upd_ne z]
def tDic1 (p : Pm) (tk tv : TE) : TE := fun σ H Q => ∀ D, H D = none → tk σ (upd H D (dO p.P p.w D [] 0)) fun x H1 => tv σ H1 fun y H2 => H2 D = some (dO p.P p.w D [] 0) ∧ ∃ F b kd k, Same F H2 ∧ x = .ref b ∧ At p F kd (.ref b) ∧ keyOf kd = some k ∧ k.depth ≤ 8 ∧
  ∀ u ep, RelV y u → Q (.ref D) (upd H2 D (dO p.P p.w D [(k, b, u)] ep))
theorem pe_dic1 {tk tv : TE} (hr : X.A.units + 64 < cLine) (hk : PE X a tk) (hv : PE X b tv) : PE X (.Dict [some a] [b] pos) (tDic1 (pmOf X cls) tk tv) := by
  refine ⟨fun pins s σ H Q I h => ?_⟩
  have hn := I.hok.fresh (Nat.le_refl s.heap.objs.size)
  have I1 := I.laid (a := s.heap.objs.size) (o := dO X.prog X.w s.heap.objs.size [] 0) (h' := s.heap.push { cls := .type "dict", data := .dict #[] }) (t' := s.toks) (fun _ _ q => Heap.get?_push_of_some _ q) (Nat.le_refl _) (dO_empty s.heap I.big)
  rw [arm_eval_Dict]
  have hshape : (evalEachOpt [some a] X.env).zip ((evalEach [b] X.env).map fun v => do let x ← v; standAt pos; pure x) = [(eval a X.env, (do let x ← eval b X.env; standAt pos; pure x : Sem Value))].map fun p => (some p.1, p.2) := rfl
  rw [hshape, dictDisplay_pairs _ (by simp) (by simp)]
  refine wpAny_bind (wpAny_standAt (wpAny_bind (wpAny_subDictH (knd := nestedKind X.prog X.w) (Q := fun d s' => wpAny (model X.prog X.w) X.A (pure (Value.ref d)) _ X.xe s') (by show X.A.units + 8 < cLine; omega) (by simp) ?_)))
  refine evalPairs_cons (thn (hk.run pins _ σ _ _ I1 (h _ hn)) fun u s1 ⟨x, H1, I1', r1, q1⟩ => wpAny_bind (thn (hv.run pins s1 σ H1 _ I1' q1) fun w2 s2 ⟨y, H2, I2, r2, q2⟩ => wpAny_bind (wpAny_standAt (wpAny_pure (evalPairs_nil ?_)))))
  obtain ⟨hD, F, b', kd, k, sF, e1, hk', ke, kn, q⟩ := q2
  subst e1
  cases r1
  obtain ⟨h1, h2, h3⟩ := dct_at (cls := cls) (kvs := []) I2 sF hD .nil
  refine ⟨[(k, b', w2)], ⟨rfl, rfl, ⟨at_nested I2 sF _ _ _ _ hk' ke rfl, kn⟩, trivial⟩, h3, fun h' tk hm hs => ?_⟩
  obtain ⟨ep', I'⟩ := dO_write (t' := tk) I2 hD hm hs (by show 1 ≤ sizeLine; decide)
  exact wpAny_pure ⟨.ref s.heap.objs.size, _, I', rfl, q w2 ep' r2⟩
theorem e_dic1 (ok : POk (pmOf X cls)) (hr : X.A.units + 64 < cLine) (hk : PE X a (tE (pmOf X cls) P fk)) (hv : PE X b (tE (pmOf X cls) P fv)) : PE X (.Dict [some a] [b] pos) (tE (pmOf X cls) P (fDic1 fk fv)) := by
  refine (pe_dic1 (cls := cls) hr hk hv).weak fun σ H Q ⟨F, ρ, fp, R, h⟩ => ?_
  unfold fDic1 at h
  simp only [wpR_bind, wpR_lift, wpR_pure] at h
  intro D hD
  obtain ⟨E0, R0, nF, nW⟩ := R.newH (o := dO X.prog X.w D [] 0) hD
  refine fz_go ok E0 R0 h fun x g F1 H1 fp1 v E1 Er1 R1 A1 => ?_
  refine fz_go ok E1 R1 g fun y g2 F2 H2 fp2 w E2 Er2 R2 A2 => ?_
  obtain ⟨r, hr', k⟩ := g2
  -- the new dict is nobody's
  have new : ∀ {F' H' : Hp} {W' : Addr → Prop}, Ext F (upd H D (dO X.prog X.w D [] 0)) (Wn ρ fp) F' H' W' → H' D = some (dO X.prog X.w D [] 0) ∧ F' D = none ∧ ¬ W' D := fun {F' H' W'} E => by
    refine ⟨E.keep D _ upd_same nW, ?_, fun w => ?_⟩
    · cases z : F' D with
      | none => rfl
      | some o =>
        rcases E.newF D (by rw [z]; simp) with q | q | q
        · exact absurd nF q
        · rw [upd_same] at q; cases q
        · exact absurd q nW
    · rcases E.newW D w with q | q
      · exact nW q
      · rw [upd_same] at q; cases q
  obtain ⟨n1, n2, n3⟩ := new (Er1.trans Er2)
  unfold dic1 at hr'
  split at hr'
  · rename_i key hkey
    split at hr'
    · rename_i pl
      cases hr'
      obtain ⟨k1, k2, ds, hds⟩ := keyT_some hkey
      rw [hds] at A1
      have hb : ∃ b', v = .ref b' := by
        cases A1 with
        | tup h l => exact ⟨_, rfl⟩
      obtain ⟨b', rfl⟩ := hb
      rw [← hds] at A1
      refine ⟨n1, F2, b', x.1, key, R2.sub, rfl, A1.mono Er2.same, k1, k2, fun u ep ru => ?_⟩
      have E3 := R2.free (o := dO X.prog X.w D [(key, b', u)] ep) E2 hD n2 n3
      exact k F2 _ fp2 _ E3.1 E3.2 ⟨[D], .dct upd_same pl (.cons k1 k2 (A1.mono Er2.same) ru A2 .nil), fun c hc => by
        simp at hc
        subst hc
        exact ⟨n2, hD, n3⟩⟩
    · cases hr'
  · cases hr'
end
end VL

set_option Elab.async false
set_option linter.all false
set_option maxRecDepth 100000
/-! V15: what is walked. -/
namespace PySem
open Sem (wp)
open AutoSeq1 (wpAny_loadPart')
theorem meets_enumerate_newT (l : Addr) (items : Array Value) (n : Nat) (dct : Option Addr) (sl : Array (Option Value)) :
    Meets (Builtin.«enumerate.__new__» ⟨[.type "enumerate", .ref l], []⟩) (fun _ R s => s.heap.get? l = some { cls := .type "tuple", dict := dct, data := .seq items n, slots := sl } ∧
      R (.ok (.ret (.ref (s.heap.push { cls := .type "tuple_iterator", data := .fields #[.ref l, .int 0 0] }).objs.size)))
        { s with heap := (s.heap.push { cls := .type "tuple_iterator", data := .fields #[.ref l, .int 0 0] }).push { cls := .type "enumerate", data := .fields #[.none, .bool false, .ref s.heap.objs.size, rawInt 0, .none, .none] } }) :=
  .of_wp fun prog w A R s h => by
    obtain ⟨hp, g, d, tk, os⟩ := s; obtain ⟨hl, h⟩ := h
    have hsub := sub_enumerate
    have hL : Heap.IsTuple (Shared.heap ⟨hp, g, d, tk, os⟩) l items := ⟨_, hl, rfl, n, rfl⟩
    wp_walk using wpAny_loadPart' hl
    refine wpAny_stack_any fun st => wpAny_pure ?_
    split
    · rename_i c _ _ _ _ _
      cases (c == Value.type "enumerate")
      · wp_walk using wpAny_loadPart' hl, wpAny_pyIter_tuple hL
        exact ⟨_, rfl, h⟩
      · wp_walk using wpAny_loadPart' hl, wpAny_pyIter_tuple hL
        exact ⟨_, rfl, h⟩
    · wp_walk using wpAny_loadPart' hl, wpAny_pyIter_tuple hL
      exact ⟨_, rfl, h⟩
theorem call_enumerate_tup {prog : Program} {w : World} {A : Around} {E : Value → Shared → Prop} {s : Shared} {l : Addr} {items : Array Value} {Q : Value → Shared → Prop} (hL : s.heap.IsTuple l items)
    (h : ∀ h', IsEnum h' (s.heap.objs.size + 1) s.heap.objs.size 0 .none → h'.IsTupleIter s.heap.objs.size l 0 → h'.objs.size = s.heap.objs.size + 2 →
      (∀ b o, s.heap.get? b = some o → h'.get? b = some o) → Q (.ref (s.heap.objs.size + 1)) { s with heap := h' }) :
    wpAny (model prog w) A (call (.type "enumerate") [.ref l]) Q E s := by
  obtain ⟨⟨c, dct, dt, sl⟩, hl, hc, n, hd⟩ := hL
  replace hc : c = .type "tuple" := hc
  replace hd : dt = .seq items n := hd
  subst hc hd
  refine callType_new F.called_enumerate (by decide) (F.typeCall_enumerate_1 _) (F.newCall_enumerate_1 _) (fun obj => F.args_object_init_2 obj _) F.entry_enumerate_new
    (meets_enumerate_newT l items n dct sl) ⟨hl, ?_⟩
  have hz : (s.heap.push { cls := .type "tuple_iterator", data := .fields #[.ref l, .int 0 0] }).objs.size = s.heap.objs.size + 1 := Heap.size_push ..
  show _ ∧ _
  rw [hz]
  have he : IsEnum ((s.heap.push { cls := .type "tuple_iterator", data := .fields #[.ref l, .int 0 0] }).push
      { cls := .type "enumerate", data := .fields #[.none, .bool false, .ref s.heap.objs.size, rawInt 0, .none, .none] }) (s.heap.objs.size + 1) s.heap.objs.size 0 .none := by
    have := Heap.get?_push_size (s.heap.push { cls := .type "tuple_iterator", data := .fields #[.ref l, .int 0 0] })
      (o := { cls := .type "enumerate", data := .fields #[.none, .bool false, .ref s.heap.objs.size, rawInt 0, .none, .none] }) rfl
    rw [hz] at this; exact this
  refine ⟨⟨_, he, rfl⟩, h _ he ⟨_, Heap.get?_push_of_some _ (Heap.get?_push_size _ rfl), rfl, rfl⟩ (by rw [Heap.size_push, hz]) fun b o x => Heap.get?_push_of_some _ (Heap.get?_push_of_some _ x)⟩
end PySem
namespace VL
open PySem PySem.Spec PySem.W PyProof.Rows L2 StX

/-- what an iterator gives, over F -/
def Wk (p : Pm) (J : It) (ds : List D) (F : Hp) : Prop := ∀ F1 H1, Same F F1 → Same F1 H1 → ∀ i, (∀ d, ds[i]? = some d → J.go i H1 ∧ ∀ x H', J.yld i H1 x H' → ∃ F', Nw F1 H1 F' H' ∧ Same F' H' ∧ At p F' d x) ∧ (ds.length = i → J.stop i H1)
def tI (p : Pm) (P : Pr) (f : FA) : TI := fun σ H R => ∃ F ρ fp, Rep p P F H ρ σ fp ∧ wpR (Exc P F H (Wn ρ fp)) (fun x =>
  ∀ F' H' fp' J, Ext F H (Wn ρ fp) F' H' (Wn x.2 fp') → Rep p P F' H' x.2 σ fp' → Wk p J x.1 F' → R J H') (f ρ)
section
variable {X : Cx} {cls : Nat → Option (Addr × List Str)} {P : Pr} {tg a b e : Expr} {fa fb fk fv : FE} {pos p2 apos cpos p0 p1 tpos : Pos}
theorem _root_.L2.PI.weak {wi wi' : TI} (h : PI X tg e wi) (f : ∀ σ H R, wi' σ H R → wi σ H R) : PI X tg e wi' := ⟨fun pins s σ H R I q => h.run pins s σ H R I (f σ H R q)⟩
/-- by value: a list, a tuple, a dict's keys -/
def iVal (p : Pm) (R : It → Hp → Prop) (x : V) (H : Hp) : Prop := ∃ F d ds, Same F H ∧ At p F d x ∧ itemsOf d = some ds ∧ ∀ J, Wk p J ds F → R J H
theorem atL_ints {p : Pm} {F : Hp} : ∀ ns : List Int, AtL p F (ns.map .int) (ns.map V.int)
  | [] => .nil
  | n :: ns => .cons (.int n) (atL_ints ns)
theorem wk_listS {p : Pm} {F : Hp} {a : Addr} {ds : List D} {vs : List V} (h : SqL p.K F a vs) (l : AtL p F ds vs) : Wk p (Itl p.K a) ds F := fun F1 H1 s s1 i => by
  have hq : SqL p.K H1 a vs := s1.sqL (s.sqL h)
  refine ⟨fun d e => ?_, fun e => ⟨vs, hq, by rw [← l.length]; exact Nat.le_of_eq e⟩⟩
  obtain ⟨v, h1, h2⟩ := l.get e
  refine ⟨⟨vs, v, hq, h1⟩, fun x H' ⟨e1, e2⟩ => ?_⟩
  subst e1
  have := e2 vs hq
  rw [h1] at this
  cases this
  exact ⟨F1, Nw.refl, s1, h2.mono s⟩
theorem wk_list {p : Pm} {F : Hp} {a : Addr} {ds : List D} {vs : List V} (h : F a = some (.lst vs)) (l : AtL p F ds vs) : Wk p (Itl p.K a) ds F := wk_listS (.inl (.of h)) l
theorem wk_tup {p : Pm} {F : Hp} {a : Addr} {ds : List D} {vs : List V} (h : SqT p.K F a vs) (l : AtL p F ds vs) : Wk p (Itt p.K a) ds F := fun F1 H1 s s1 i => by
  have hq : SqT p.K H1 a vs := s1.sqT (s.sqT h)
  refine ⟨fun d e => ?_, fun e => ⟨vs, hq, by rw [← l.length]; exact Nat.le_of_eq e⟩⟩
  obtain ⟨v, h1, h2⟩ := l.get e
  refine ⟨⟨vs, v, hq, h1⟩, fun x H' ⟨e1, e2⟩ => ?_⟩
  subst e1
  have := e2 vs hq
  rw [h1] at this
  cases this
  exact ⟨F1, Nw.refl, s1, h2.mono s⟩
theorem wk_rng {p : Pm} {F : Hp} {lo : Int} {n : Nat} : Wk p (Itr lo n) (rngD lo n) F := fun F1 H1 s s1 i => by
  refine ⟨fun d e => ?_, fun e => (show n ≤ i by have : n = i := (by simpa [rngD] using e); omega)⟩
  unfold rngD at e
  rw [List.getElem?_map] at e
  cases q : (List.range n)[i]? with
  | none => rw [q] at e; cases e
  | some j =>
    rw [q] at e
    cases e
    obtain ⟨h1, h2⟩ := List.getElem?_eq_some_iff.mp q
    simp at h1 h2
    subst h2
    refine ⟨h1, fun x H' ⟨e1, e2⟩ => ?_⟩
    subst e1 e2
    exact ⟨F1, Nw.refl, s1, .int _⟩
/-- the keys of a dict that nobody writes -/
def ItK (a : Addr) (P : Program) (w : World) (xs : List (NestedKey × Addr × Value)) (ep : Nat) : It := ⟨fun i H => i < xs.length ∧ H a = some (dO P w a xs ep), fun i H x H' => H' = H ∧ (xs.map fun x => V.ref x.2.1)[i]? = some x, fun i H => xs.length ≤ i ∧ H a = some (dO P w a xs ep)⟩
theorem wk_dct {p : Pm} {F : Hp} {a : Addr} {kvs : List (D × D)} {xs : List (NestedKey × Addr × Value)} {ep : Nat} (h : F a = some (dO p.P p.w a xs ep)) (k : AtK p F kvs xs) : Wk p (ItK a p.P p.w xs ep) (kvs.map (·.1)) F := fun F1 H1 s s1 i => by
  have hq := s1 _ _ (s _ _ h)
  refine ⟨fun d e => ?_, fun e => ⟨by rw [← k.length, ← List.length_map (f := fun x : D × D => x.1)]; exact Nat.le_of_eq e, hq⟩⟩
  obtain ⟨v, h1, h2⟩ := k.keys.get e
  refine ⟨⟨?_, hq⟩, fun x H' ⟨e1, e2⟩ => ?_⟩
  · have := (List.getElem?_eq_some_iff.mp h1).1
    simpa using this
  · subst e1
    rw [h1] at e2
    cases e2
    exact ⟨F1, Nw.refl, s1, h2.mono s⟩
theorem turn_dO {G : Program} {w : World} {K : Frag} {a it : Addr} {xs : List (NestedKey × Addr × Value)} {ep : Nat} (hne : a ≠ it) : Turn G w K tg (ItK a G w xs ep) [it] it (fun i h => h.IsKeyIter it a i xs.length ep) where
  mem := by simp
  obj := fun i h st b hb => by
    have e : b = it := by simpa using hb
    subst e
    obtain ⟨o, e, c, d⟩ := st
    exact ⟨o, e, fun v z => by rw [d] at z; cases z⟩
  keep := fun i h h' st k => st.at fun o e => k it (by simp) o e
  item := by
    intro Y hP hw hK hc i pins s σ H E I hf st hg
    subst hP hw hK
    obtain ⟨hlt, ha⟩ := hg
    obtain ⟨es, h1, h2, hraw, h6⟩ := dct_raw I ha
    obtain ⟨f0, f1, f2, f3, f4, f5⟩ := hf it (by simp)
    have hs : es.size = xs.length := by rw [← Array.length_toList, h6, List.length_map]
    refine (Walks.rawKeys (prog := Y.prog) (w := Y.w) (I.ok.hd hc) it a hne es ep).item i s _ _ (by rw [hs]; exact hlt) ⟨by rw [hs]; exact st, hraw⟩ fun v h' tk hv st' kp => ?_
    obtain ⟨hi, rfl⟩ := hv
    have I1 : L2.Inv Y pins σ H { s with heap := h', toks := tk } := I.turned (fun b o hb e => kp b o (by simpa using hb) e) f0 f1 f3 f4 f5
    obtain ⟨o, e, c, d⟩ := id st'.1
    have hkey : es[i] = entryOfKey (nestedKind Y.prog Y.w) xs[i] := by
      have : es.toList[i]? = (xs.map (entryOfKey (nestedKind Y.prog Y.w)))[i]? := by rw [h6]
      rw [List.getElem?_map, List.getElem?_eq_getElem hlt, Array.getElem?_toList, Array.getElem?_eq_getElem hi] at this
      exact Option.some.inj this
    refine ⟨es[i].key, rfl, go_of (s := { s with heap := h', toks := tk }) e c d (by decide) ⟨.ref xs[i].2.1, H, I1, ?_, ⟨rfl, by rw [List.getElem?_map, List.getElem?_eq_getElem hlt]; rfl⟩, ?_, fun b hb => (hf b hb).1⟩⟩
    · rw [hkey]
      rfl
    · have z := st'.1
      rw [hs] at z
      exact z
  done := by
    intro Y hP hw hK hc i pins s σ H E I hf st hg
    subst hP hw hK
    obtain ⟨hlt, ha⟩ := hg
    obtain ⟨es, h1, h2, hraw, h6⟩ := dct_raw I ha
    obtain ⟨f0, f1, f2, f3, f4, f5⟩ := hf it (by simp)
    have hs : es.size = xs.length := by rw [← Array.length_toList, h6, List.length_map]
    exact wpAny_pyNext_keys_end_raw (I.ok.hd hc) (by rw [hs]; exact st) hraw (by rw [hs]; exact hlt) fun h' eb => ⟨rfl, I.turned (t' := s.toks) (fun b o hb e => eb b o hb e) f0 f1 f3 f4 f5⟩
  self := fun _ _ _ _ _ st h => wpAny_pyIter_keyiter st h
/-- what a list, a tuple, a dict gives by itself -/
theorem iter_val {pins : List (Addr × Obj)} {σ : L2.St} {H : Hp} {s : Shared} {R : It → Hp → Prop} {x : V} {v : Value} {E : Value → Shared → Prop} (I : L2.Inv X pins σ H s) (r : L2.RelV x v) (h : iVal (pmOf X cls) R x H) : wpAny (model X.prog X.w) X.A (pyIter v) (PIE X pins σ tg R) E s := by
  obtain ⟨F, d, ds, sF, hx, hi, k⟩ := h
  unfold itemsOf at hi
  split at hi
  · cases hi
    obtain ⟨a, vs, rfl, ha, la⟩ := (show AtH (pmOf X cls) F H _ x from .inl hx).lst sF
    cases r
    cases hx with
    | lst hF l =>
      obtain ⟨its, rv, p, hz⟩ := I.list (.of ha)
      refine wpAny_pyIter_list p.isList ?_
      refine ⟨s.heap.objs.size, [s.heap.objs.size], _, _, H, rfl, I.kept (t' := s.toks) fun b o e => Heap.get?_push_of_some _ e, turn_list a _, ⟨_, Heap.get?_push_size _ rfl, rfl, rfl⟩, fun b hb => ?_, k _ (wk_list hF l)⟩
      have e : b = s.heap.objs.size := by simpa using hb
      subst e
      exact I.fpOk (Nat.le_refl _) (I.hok.fresh (Nat.le_refl _))
  · cases hi
    obtain ⟨a, vs, rfl, ha, la, hF⟩ := (show AtH (pmOf X cls) F H _ x from .inl hx).tup sF
    cases r
    obtain ⟨its, rv, p, hz⟩ := I.tuple ha
    refine wpAny_pyIter_tuple (show s.heap.IsTuple a its.toArray from p) ?_
    refine ⟨s.heap.objs.size, [s.heap.objs.size], _, _, H, rfl, I.kept (t' := s.toks) fun b o e => Heap.get?_push_of_some _ e, turn_tuple a _, ⟨_, Heap.get?_push_size _ rfl, rfl, rfl⟩, fun b hb => ?_, k _ (wk_tup hF la)⟩
    have e : b = s.heap.objs.size := by simpa using hb
    subst e
    exact I.fpOk (Nat.le_refl _) (I.hok.fresh (Nat.le_refl _))
  · cases hi
    have sc : ∃ (a : Addr) (ns : List Int), x = .ref a ∧ ds = ns.map .int ∧ SqL (pmOf X cls).K F a (ns.map V.int) := by
      cases hx with
      | dct h n _ => cases n
      | scr h => exact ⟨_, _, rfl, rfl, h⟩
      | ins h c z n l => exact absurd rfl z
    obtain ⟨a, ns, rfl, rfl, hl⟩ := sc
    cases r
    obtain ⟨its, rv, p, hz⟩ := I.list (sF.sqL hl)
    refine wpAny_pyIter_list p.isList ?_
    refine ⟨s.heap.objs.size, [s.heap.objs.size], _, _, H, rfl, I.kept (t' := s.toks) fun b o e => Heap.get?_push_of_some _ e, turn_list a _, ⟨_, Heap.get?_push_size _ rfl, rfl, rfl⟩, fun b hb => ?_, k _ (wk_listS hl (atL_ints ns))⟩
    have e : b = s.heap.objs.size := by simpa using hb
    subst e
    exact I.fpOk (Nat.le_refl _) (I.hok.fresh (Nat.le_refl _))
  · split at hi
    · rename_i kvs _ n
      cases hi
      cases hx with
      | scr => cases n
      | ins => cases n
      | @dct a _ xs ep hF _ ak =>
        cases r
        have ha := sF _ _ hF
        obtain ⟨es, h1, h2, hraw, h6⟩ := dct_raw I ha
        have hs : es.size = xs.length := by rw [← Array.length_toList, h6, List.length_map]
        refine wpAny_pyIter_dict_raw h1 hraw ?_
        refine ⟨s.heap.objs.size, [s.heap.objs.size], _, _, H, rfl, I.kept (t' := s.toks) fun b o e => Heap.get?_push_of_some _ e, turn_dO (Nat.ne_of_lt (I.hok.lt ha)), ⟨_, Heap.get?_push_size _ rfl, rfl, by rw [hs]; rfl⟩, fun b hb => ?_, k _ (wk_dct hF ak)⟩
        have e : b = s.heap.objs.size := by simpa using hb
        subst e
        exact I.fpOk (Nat.le_refl _) (I.hok.fresh (Nat.le_refl _))
    · cases hi
  · cases hi
theorem i_seq (ok : POk (pmOf X cls)) (ha : PE X e (tE (pmOf X cls) P fa)) : PI X tg e (tI (pmOf X cls) P (iSeq fa)) := by
  refine ⟨fun pins s σ H R I ⟨F, ρ, fp, Rp, h⟩ => ?_⟩
  unfold iSeq at h
  simp only [wpR_bind, wpR_lift, wpR_pure] at h
  refine thn (ha.run pins s σ H (fun x H1 => iVal (pmOf X cls) R x H1) I (fz_go ok Ext.refl Rp h fun x g F1 H1 fp1 v E1 _ R1 A1 => ?_)) fun v s1 ⟨x, H1, I1, r1, q1⟩ => iter_val I1 r1 q1
  obtain ⟨ds, hd, k⟩ := g
  exact ⟨F1, x.1, ds, R1.sub, A1, hd, fun J hJ => k F1 H1 fp1 J E1 R1 hJ⟩
theorem i_rng1 (ha : PE X a (tE (pmOf X cls) P fa)) (hg : Gl X "range") (hm : X.mg "range" = none) (hs : starEach [a] X.env = [(false, eval a X.env)]) : PI X tg (.Call (.Name "range" p0) [a] [] pos) (tI (pmOf X cls) P (iRng1 fa)) := by
  refine PI.weak (pi_range1 hg hm (pa_one ha hs) hs) fun σ H R ⟨F, ρ, fp, Rp, h⟩ => ?_
  unfold VL.iRng1 at h
  simp only [wpR_bind] at h
  refine tE.go Ext.refl Rp h fun x g F1 H1 fp1 v E1 _ R1 V1 => ?_
  obtain ⟨r, ρ1⟩ := x
  simp only at g
  split at g
  · rename_i n _
    split at g
    · rename_i hn
      cases V1
      have h1 : (-1000000 : Int) ≤ n := hn.2
      have h2 : n ≤ (1000000 : Int) := hn.1
      exact ⟨n, rfl, by omega, by omega, g F1 H1 fp1 _ E1 R1 wk_rng⟩
    · exact g.elim
  · exact g.elim
theorem i_rng2 (ha : PE X a (tE (pmOf X cls) P fa)) (hb : PE X b (tE (pmOf X cls) P fk)) (hg : Gl X "range") (hm : X.mg "range" = none) (hs : starEach [a, b] X.env = [(false, eval a X.env), (false, eval b X.env)]) (hs2 : starEach [b] X.env = [(false, eval b X.env)]) :
    PI X tg (.Call (.Name "range" p0) [a, b] [] pos) (tI (pmOf X cls) P (iRng2 fa fk)) := by
  refine PI.weak (pi_range2 hg hm (pa_cons ha (pa_one hb hs2) (by rw [hs, hs2])) hs hs2) fun σ H R ⟨F, ρ, fp, Rp, h⟩ => ?_
  unfold VL.iRng2 at h
  simp only [wpR_bind] at h
  refine tE.go Ext.refl Rp h fun x g0 F1 H1 fp1 v E1 Er1 R1 V1 => ?_
  refine tE.go E1 R1 g0 fun y g F2 H2 fp2 w E2 Er R2 V2 => ?_
  obtain ⟨r, ρ1⟩ := x
  obtain ⟨r2, ρ2⟩ := y
  simp only at g
  split at g
  · clear g0
    rename_i i j
    split at g
    · rename_i hn
      cases V1
      cases V2
      have h1 : i.natAbs ≤ 1000000 := hn.1
      have h2 : j.natAbs ≤ 1000000 := hn.2
      exact ⟨i, j, rfl, ⟨by omega, by omega, by omega, by omega⟩, g F2 H2 fp2 _ E2 R2 wk_rng⟩
    · exact g.elim
  · exact g.elim
/-! ### enumerate -/
def IteT (K : Frag) (a : Addr) : It :=
  ⟨fun i H => ∃ (xs : List V) (x : V), SqT K H a xs ∧ xs[i]? = some x, fun i H v H' => ∃ T x, v = .ref T ∧ H T = none ∧ H' = upd H T (.tup [.int (i : Nat), x]) ∧ ∀ xs, SqT K H a xs → xs[i]? = some x, fun i H => ∃ xs : List V, SqT K H a xs ∧ xs.length = i⟩
theorem turn_enumT {G : Program} {w : World} {K : Frag} {elts : List Expr} {kk : Nat} (a e it : Addr) : Turn G w K (.Tuple elts kk tpos) (IteT K a) [e, it] e (fun i h => (∃ old, IsEnum h e it ((i : Nat) : Int) old) ∧ h.IsTupleIter it a i ∧ e ≠ it ∧ e ≠ a ∧ a ≠ it) where
  mem := by simp
  obj := fun i h st b hb => by
    obtain ⟨⟨old, he⟩, ⟨o, ho, hc, hd⟩, _⟩ := st
    have e' : b = e ∨ b = it := by simpa using hb
    rcases e' with z | z
    · rw [z]; exact ⟨_, he, fun v q => nomatch q⟩
    · rw [z]; exact ⟨o, ho, fun v q => by rw [hd] at q; cases q⟩
  keep := fun i h h' st k => let ⟨⟨old, he⟩, hi, hne⟩ := st; ⟨⟨old, k e (by simp) _ he⟩, hi.at fun o q => k it (by simp) o q, hne⟩
  item := by
    intro X hP hw hK hc i pins s σ H E I hf st hg
    subst hP hw hK
    obtain ⟨⟨old, he⟩, hit, hne, hea, hai⟩ := st
    obtain ⟨xs, x, hq, hx⟩ := hg
    obtain ⟨its, rv, p, hz⟩ := I.tuple hq
    have hlt : i < its.length := by rw [← rv.length]; exact (List.getElem?_eq_some_iff.mp hx).1
    obtain ⟨u, hu, ru⟩ := rv.get hx
    have hel : e < s.heap.objs.size := Heap.lt_size he
    have hil : it < s.heap.objs.size := by obtain ⟨_, q, _⟩ := hit; exact Heap.lt_size q
    refine wpAny_pyNext_enum_itemD (P := fun i v => its.toArray[i]? = some v) (n := its.toArray.size) (fp := [it, a]) (Draws.tuple (A := X.A.in1) (I.ok.hd hc) it a hai its.toArray) he ⟨hit, show s.heap.IsTuple a its.toArray from p⟩ (by simpa using hlt) hne (by simp [hne, hea]) fun y h' tk hy ho hst hT hsz hk => ?_
    have : y = u := by
      have hy : its[i]? = some y := by simpa using hy
      rw [hu] at hy
      exact (Option.some.inj hy).symm
    subst this
    refine ⟨_, rfl, wpAny_letOwnedTupleGo_enum (s := { s with heap := h', toks := tk + 1 }) ho fun h'' he' sb => ?_⟩
    have hT2 : h''.get? s.heap.objs.size = some { cls := .type "tuple", data := .seq #[.int i tk, y] } := (sb.2 _ (Nat.ne_of_gt hel)).trans hT
    have new : ObjOk X.prog X.w (upd H s.heap.objs.size (.tup [.int (i : Nat), x])) h'' s.heap.objs.size (.tup [.int (i : Nat), x]) :=
      ⟨by show 2 ≤ sizeLine; decide, [.int i tk, y], .cons ⟨_, rfl⟩ (.cons ru .nil), ⟨_, hT2, rfl, _, rfl⟩⟩
    have I1 : L2.Inv X pins σ (upd H s.heap.objs.size (.tup [.int (i : Nat), x])) { s with heap := h'', toks := tk + 1 } :=
      I.turnedNew (ch := [e, it]) (fun b ob hb q => (sb.2 b (fun z => hb (by simp [z]))).trans (hk b ob (fun z => hb (by simp [z])) (fun z => hb (by simp [z])) q)) hf (Nat.le_refl _) new
    refine ⟨.ref s.heap.objs.size, _, I1, rfl, ⟨_, x, rfl, I.hok.fresh (Nat.le_refl _), rfl, fun ys hy => by rw [I.tuple_inj hy hq]; exact hx⟩, ⟨⟨y, ?_⟩, hst.1.at fun o q => (sb.2 it (Ne.symm hne)).trans q, hne, hea, hai⟩, fun b hb => ?_⟩
    · have e1 : ((i + 1 : Nat) : Int) = (i : Int) + 1 := by omega
      rw [e1]; exact he'
    · have hb' : b < s.heap.objs.size := by
        have e' : b = e ∨ b = it := by simpa using hb
        rcases e' with z | z
        · rw [z]; exact hel
        · rw [z]; exact hil
      rw [upd_ne (Nat.ne_of_lt hb')]
      exact (hf b hb).1
  done := by
    intro X hP hw hK hc i pins s σ H E I hf st hg
    subst hP hw hK
    obtain ⟨⟨old, he⟩, hit, hne, hea, hai⟩ := st
    obtain ⟨xs, hq, hx⟩ := hg
    obtain ⟨its, rv, p, hz⟩ := I.tuple hq
    obtain ⟨f0, f1, f2, f3, f4, f5⟩ := hf it (by simp)
    have hl := rv.length
    refine wpAny_pyNext_enum_endD (P := fun i v => its.toArray[i]? = some v) (n := its.toArray.size) (fp := [it, a]) (Draws.tuple (A := X.A.in1) (I.ok.hd hc) it a hai its.toArray) he ⟨?_, show s.heap.IsTuple a its.toArray from p⟩ fun h' eb => ⟨rfl, I.turned (t' := s.toks) (fun b o hb q => eb b o hb q) f0 f1 f3 f4 f5⟩
    rw [List.size_toArray, ← hl, hx]
    exact hit
  self := fun A i s Q E st h => let ⟨⟨_, he⟩, _⟩ := st; wpAny_pyIter_enum he h
theorem enumD_get : ∀ {ds : List D} {n i : Nat} {d : D}, (enumD n ds)[i]? = some d → ∃ e, ds[i]? = some e ∧ d = .tuple [.int ((n + i : Nat) : Int), e]
  | [], _, _, _, h => by simp [enumD] at h
  | e :: ds, n, 0, d, h => by
    simp [enumD] at h
    subst h
    exact ⟨e, rfl, rfl⟩
  | e :: ds, n, i + 1, d, h => by
    obtain ⟨e', h1, h2⟩ := enumD_get (ds := ds) (n := n + 1) (i := i) (d := d) (by simpa [enumD] using h)
    exact ⟨e', by simpa using h1, by rw [h2, show n + 1 + i = n + (i + 1) by omega]⟩
theorem enumD_len : ∀ (ds : List D) (n : Nat), (enumD n ds).length = ds.length
  | [], _ => rfl
  | e :: ds, n => by simp [enumD, enumD_len ds]
theorem wk_new {p : Pm} {F1 H1 : Hp} {T : Addr} {vs : List V} {ds : List D} (s1 : Same F1 H1) (n : H1 T = none) (l : AtL p F1 ds vs) : ∃ F', Nw F1 H1 F' (upd H1 T (.tup vs)) ∧ Same F' (upd H1 T (.tup vs)) ∧ At p F' (.tuple ds) (.ref T) :=
  ⟨upd F1 T (.tup vs), Nw.push n s1, same_push s1, .tup (.of upd_same) (l.mono (same_upd (s1.none n)))⟩
theorem wk_enumL {p : Pm} {F : Hp} {a : Addr} {ds : List D} {vs : List V} (h : F a = some (.lst vs)) (l : AtL p F ds vs) : Wk p (Ite p.K a) (enumD 0 ds) F := fun F1 H1 s s1 i => by
  have hq : SqL p.K H1 a vs := .inl (.of (s1 _ _ (s _ _ h)))
  refine ⟨fun d e => ?_, fun e => ⟨vs, hq, by rw [← l.length, ← enumD_len ds 0]; exact Nat.le_of_eq e⟩⟩
  obtain ⟨e', e1, e2⟩ := enumD_get e
  obtain ⟨v, h1, h2⟩ := l.get e1
  refine ⟨⟨vs, v, hq, h1⟩, fun x H' ⟨T, y, e3, n, e4, e5⟩ => ?_⟩
  subst e3 e4
  have := e5 vs hq
  rw [h1] at this
  cases this
  rw [e2, Nat.zero_add]
  exact wk_new s1 n (.cons (.int _) (.cons (h2.mono s) .nil))
theorem wk_enumT {p : Pm} {F : Hp} {a : Addr} {ds : List D} {vs : List V} (h : SqT p.K F a vs) (l : AtL p F ds vs) : Wk p (IteT p.K a) (enumD 0 ds) F := fun F1 H1 s s1 i => by
  have hq : SqT p.K H1 a vs := s1.sqT (s.sqT h)
  refine ⟨fun d e => ?_, fun e => ⟨vs, hq, by rw [← l.length, ← enumD_len ds 0]; exact e⟩⟩
  obtain ⟨e', e1, e2⟩ := enumD_get e
  obtain ⟨v, h1, h2⟩ := l.get e1
  refine ⟨⟨vs, v, hq, h1⟩, fun x H' ⟨T, y, e3, n, e4, e5⟩ => ?_⟩
  subst e3 e4
  have := e5 vs hq
  rw [h1] at this
  cases this
  rw [e2, Nat.zero_add]
  exact wk_new s1 n (.cons (.int _) (.cons (h2.mono s) .nil))
theorem i_enum {elts : List Expr} {kk : Nat} (ok : POk (pmOf X cls)) (ha : PE X a (tE (pmOf X cls) P fa)) (hg : Gl X "enumerate") (hm : X.mg "enumerate" = none) (hs : starEach [a] X.env = [(false, eval a X.env)]) :
    PI X (.Tuple elts kk tpos) (.Call (.Name "enumerate" p0) [a] [] pos) (tI (pmOf X cls) P (iEnum fa)) := by
  refine ⟨fun pins s σ H R I ⟨F, ρ, fp, Rp, h⟩ => ?_⟩
  unfold VL.iEnum at h
  simp only [wpR_bind, wpR_lift, wpR_pure] at h
  refine Call_ (ld_blt I hg hm boot_enumerate (PyProof.Rows.callWith_type1 (thn ((pa_one ha hs).run pos pins s σ H (fun vs H1 => ∃ F1 x d ds, vs = [x] ∧ Same F1 H1 ∧ At (pmOf X cls) F1 d x ∧ seqOf d = some ds ∧ ∀ J, Wk (pmOf X cls) J (enumD 0 ds) F1 → R J H1) I (fz_go ok Ext.refl Rp h fun x g F1 H1 fp1 v E1 _ R1 A1 => ?_)) fun us s1 ⟨vs, H1, I1, r1, q1⟩ => ?_) hs rfl))
  · obtain ⟨ds, hd, k⟩ := g
    exact ⟨F1, v, x.1, ds, rfl, R1.sub, A1, hd, fun J hJ => k F1 H1 fp1 J E1 R1 hJ⟩
  · obtain ⟨F1, x, d, ds, ex, sF, hx, hd, k⟩ := q1
    subst ex
    obtain ⟨u, rfl, ru⟩ := vals1 r1
    have fresh : ∀ b ∈ [s1.heap.objs.size + 1, s1.heap.objs.size], FpOk X pins H1 b := fun b hb => by
      have e' : b = s1.heap.objs.size + 1 ∨ b = s1.heap.objs.size := by simpa using hb
      have hle : s1.heap.objs.size ≤ b := by
        rcases e' with z | z
        · rw [z]; exact Nat.le_add_right _ _
        · rw [z]; exact Nat.le_refl _
      exact I1.fpOk hle (I1.hok.fresh hle)
    unfold seqOf at hd
    split at hd
    · cases hd
      cases hx with
      | lst hF l =>
        cases ru
        obtain ⟨its, rv, p', hz⟩ := I1.list (.of (sF _ _ hF))
        refine call_enumerate_list p'.isList fun h' he hit hsz hk => wpAny_pyIter_enum he ?_
        have I2 : L2.Inv X pins σ H1 { s1 with heap := h' } := I1.kept (t' := s1.toks) hk
        exact ⟨s1.heap.objs.size + 1, [s1.heap.objs.size + 1, s1.heap.objs.size], _, _, H1, rfl, I2, turn_enum _ (s1.heap.objs.size + 1) s1.heap.objs.size, ⟨⟨.none, he⟩, hit, Nat.succ_ne_self _⟩, fresh, k _ (wk_enumL hF l)⟩
    · cases hd
      cases hx with
      | tup hF l =>
        cases ru
        obtain ⟨its, rv, p', hz⟩ := I1.tuple (sF.sqT hF)
        have p2 : s1.heap.IsTuple _ its.toArray := p'
        obtain ⟨o1, ho1, _⟩ := id p2
        have hlt := Heap.lt_size ho1
        refine call_enumerate_tup p2 fun h' he hit hsz hk => wpAny_pyIter_enum he ?_
        have I2 : L2.Inv X pins σ H1 { s1 with heap := h' } := I1.kept (t' := s1.toks) hk
        exact ⟨s1.heap.objs.size + 1, [s1.heap.objs.size + 1, s1.heap.objs.size], _, _, H1, rfl, I2, turn_enumT _ (s1.heap.objs.size + 1) s1.heap.objs.size, ⟨⟨.none, he⟩, hit, Nat.succ_ne_self _, Nat.ne_of_gt (Nat.lt_succ_of_lt hlt), Nat.ne_of_lt hlt⟩, fresh, k _ (wk_enumT hF l)⟩
    · cases hd
/-! ### zip -/
theorem zipD_get : ∀ {as bs : List D} {i : Nat} {d : D}, (zipD as bs)[i]? = some d → ∃ x y, as[i]? = some x ∧ bs[i]? = some y ∧ d = .tuple [x, y]
  | [], _, _, _, h => by simp [zipD] at h
  | _ :: _, [], _, _, h => by simp [zipD] at h
  | a :: as, b :: bs, 0, d, h => by
    simp [zipD] at h
    subst h
    exact ⟨a, b, rfl, rfl, rfl⟩
  | a :: as, b :: bs, i + 1, d, h => by
    obtain ⟨x, y, h1, h2, h3⟩ := zipD_get (as := as) (bs := bs) (i := i) (d := d) (by simpa [zipD] using h)
    exact ⟨x, y, by simpa using h1, by simpa using h2, h3⟩
theorem zipD_len : ∀ (as bs : List D), (zipD as bs).length = min as.length bs.length
  | [], _ => by simp [zipD]
  | _ :: _, [] => by simp [zipD]
  | a :: as, b :: bs => by simp [zipD, zipD_len as bs]
theorem wk_zipL {p : Pm} {F : Hp} {a b : Addr} {ds es : List D} {vs ws : List V} (h : F a = some (.lst vs)) (l : AtL p F ds vs) (h' : F b = some (.lst ws)) (l' : AtL p F es ws) : Wk p (Itz p.K a b) (zipD ds es) F := fun F1 H1 s s1 i => by
  have hq : SqL p.K H1 a vs := .inl (.of (s1 _ _ (s _ _ h)))
  have hq' : SqL p.K H1 b ws := .inl (.of (s1 _ _ (s _ _ h')))
  refine ⟨fun d e => ?_, fun e => ⟨vs, ws, hq, hq', by rw [zipD_len, l.length, l'.length] at e; omega⟩⟩
  obtain ⟨x, y, e1, e2, e3⟩ := zipD_get e
  obtain ⟨v, h1, h2⟩ := l.get e1
  obtain ⟨w, h3, h4⟩ := l'.get e2
  refine ⟨⟨vs, ws, v, w, hq, hq', h1, h3⟩, fun z H' ⟨T, y1, y2, e4, n, e5, e6, e7⟩ => ?_⟩
  subst e4 e5
  have z1 := e6 vs hq
  have z2 := e7 ws hq'
  rw [h1] at z1
  rw [h3] at z2
  cases z1
  cases z2
  rw [e3]
  exact wk_new s1 n (.cons (h2.mono s) (.cons (h4.mono s) .nil))
theorem wk_zipT {p : Pm} {F : Hp} {a b : Addr} {ds es : List D} {vs ws : List V} (h : SqT p.K F a vs) (l : AtL p F ds vs) (h' : SqT p.K F b ws) (l' : AtL p F es ws) : Wk p (RZ.ItzT p.K a b) (zipD ds es) F := fun F1 H1 s s1 i => by
  have hq : SqT p.K H1 a vs := s1.sqT (s.sqT h)
  have hq' : SqT p.K H1 b ws := s1.sqT (s.sqT h')
  refine ⟨fun d e => ?_, fun e => ⟨vs, ws, hq, hq', by rw [zipD_len, l.length, l'.length] at e; omega⟩⟩
  obtain ⟨x, y, e1, e2, e3⟩ := zipD_get e
  obtain ⟨v, h1, h2⟩ := l.get e1
  obtain ⟨w, h3, h4⟩ := l'.get e2
  refine ⟨⟨vs, ws, v, w, hq, hq', h1, h3⟩, fun z H' ⟨T, y1, y2, e4, n, e5, e6, e7⟩ => ?_⟩
  subst e4 e5
  have z1 := e6 vs hq
  have z2 := e7 ws hq'
  rw [h1] at z1
  rw [h3] at z2
  cases z1
  cases z2
  rw [e3]
  exact wk_new s1 n (.cons (h2.mono s) (.cons (h4.mono s) .nil))
theorem i_zip {elts : List Expr} {kk : Nat} (ok : POk (pmOf X cls)) (ha : PE X a (tE (pmOf X cls) P fa)) (hb : PE X b (tE (pmOf X cls) P fk)) (hg : Gl X "zip") (hm : X.mg "zip" = none) (hs : starEach [a, b] X.env = [(false, eval a X.env), (false, eval b X.env)]) (hs2 : starEach [b] X.env = [(false, eval b X.env)]) :
    PI X (.Tuple elts kk tpos) (.Call (.Name "zip" p0) [a, b] [] pos) (tI (pmOf X cls) P (iZip fa fk)) := by
  refine PI.weak (RZ.pi_zipA hg hm (pa_cons ha (pa_one hb hs2) (by rw [hs, hs2])) (by rw [hs, hs2]) (by rw [hs2]; rfl)) fun σ H R ⟨F, ρ, fp, Rp, h⟩ => ?_
  unfold VL.iZip at h
  simp only [wpR_bind, wpR_lift, wpR_pure] at h
  refine fz_go ok Ext.refl Rp h fun x g F1 H1 fp1 v E1 _ R1 A1 => ?_
  refine fz_go ok E1 R1 g fun y g F2 H2 fp2 w E2 Er R2 A2 => ?_
  obtain ⟨ds, hd, k⟩ := g
  have A1' := A1.mono Er.same
  have wz : ∃ a b xs ys, v = .ref a ∧ w = .ref b ∧ ((SqL X.K H2 a xs ∧ SqL X.K H2 b ys ∧ Wk (pmOf X cls) (Itz X.K a b) ds F2) ∨ (SqT X.K H2 a xs ∧ SqT X.K H2 b ys ∧ Wk (pmOf X cls) (RZ.ItzT X.K a b) ds F2)) := by
    unfold zipR at hd
    split at hd
    · rename_i e1 e2
      cases hd
      rw [e1] at A1'
      rw [e2] at A2
      cases A1' with
      | lst h l =>
        cases A2 with
        | lst h' l' => exact ⟨_, _, _, _, rfl, rfl, .inl ⟨.inl (.of (R2.sub _ _ h)), .inl (.of (R2.sub _ _ h')), wk_zipL h l h' l'⟩⟩
    · rename_i e1 e2
      cases hd
      rw [e1] at A1'
      rw [e2] at A2
      cases A1' with
      | tup h l =>
        cases A2 with
        | tup h' l' => exact ⟨_, _, _, _, rfl, rfl, .inr ⟨R2.sub.sqT h, R2.sub.sqT h', wk_zipT h l h' l'⟩⟩
    · cases hd
  obtain ⟨a', b', xs, ys, rfl, rfl, q⟩ := wz
  rcases q with ⟨q1, q2, q3⟩ | ⟨q1, q2, q3⟩
  · exact ⟨a', b', xs, ys, rfl, .inl ⟨q1, q2, k F2 H2 fp2 _ E2 R2 q3⟩⟩
  · exact ⟨a', b', xs, ys, rfl, .inr ⟨q1, q2, k F2 H2 fp2 _ E2 R2 q3⟩⟩
end
end VL

set_option Elab.async false
set_option linter.all false
set_option maxRecDepth 100000
/-! V16: targets, list comprehensions. -/
namespace VL
open PySem PySem.Spec PySem.W PyProof.Rows L2 StX

def Pr.nox (P : Pr) : Pr := { P with ex := fun _ _ _ => False }
theorem Rep.cast {p : Pm} {P P' : Pr} {F H : Hp} {ρ : Ev} {σ : L2.St} {fp : Nat → List Addr} (R : Rep p P F H ρ σ fp) (e : P'.prm = P.prm) : Rep p P' F H ρ σ fp := ⟨R.sub, R.len, R.sh, R.ow, R.dj, fun q hq => R.prm q (e ▸ hq)⟩

theorem set_get {α : Type} {l : List α} {i j : Nat} {w x : α} (h : (l.set i w)[j]? = some x) : (j = i ∧ x = w) ∨ (j ≠ i ∧ l[j]? = some x) := by
  by_cases q : i = j
  · subst q
    by_cases hl : i < l.length
    · rw [List.getElem?_set_self hl] at h
      exact .inl ⟨rfl, (Option.some.inj h).symm⟩
    · rw [List.getElem?_eq_none (by rw [List.length_set]; omega)] at h
      cases h
  · rw [List.getElem?_set_ne q] at h
    exact .inr ⟨fun z => q z.symm, h⟩
section
variable {p : Pm} {P : Pr} {F0 H0 F H F' H' : Hp} {W0 W W' : Addr → Prop} {ρ ρ' : Ev} {σ σ' : L2.St} {fp : Nat → List Addr}
/-- a slot takes a still value, or none -/
def SvOk (p : Pm) (F : Hp) : SV → Option V → Prop
  | .sh d, some v => At p F d v
  | .un, _ => True
  | _, _ => False
theorem Rep.setS (R : Rep p P F H ρ σ fp) {i : Nat} {w : SV} {v : Option V} (h : SvOk p F w v) : Rep p P F H (ρ.set i w) (σ.set i v) fp ∧ ∀ a, Wn (ρ.set i w) fp a → Wn ρ fp a := by
  have nw : ∀ d, w ≠ .ow d := fun d e => by subst e; cases v <;> exact h
  have lt : ∀ (j : Nat) (x : SV), ρ[j]? = some x → j < σ.length := fun j x e => by rw [← R.len]; exact (List.getElem?_eq_some_iff.mp e).1
  refine ⟨⟨R.sub, by rw [List.length_set, List.length_set]; exact R.len, fun j d e => ?_, fun j d e => ?_, fun j k d e hjk h1 h2 => ?_, fun q hq d e => ?_⟩, fun a ⟨j, d, e, ha⟩ => ?_⟩
  · by_cases z : i = j
    · subst z
      have hl : i < ρ.length := by
        have := (List.getElem?_eq_some_iff.mp e).1
        rwa [List.length_set] at this
      rw [List.getElem?_set_self hl] at e
      cases e
      cases v with
      | none => exact h.elim
      | some v => exact ⟨v, by rw [List.getElem?_set_self (by rw [← R.len]; exact hl)], h⟩
    · rw [List.getElem?_set_ne z] at e ⊢
      exact R.sh j d e
  · rcases set_get e with ⟨_, z⟩ | ⟨z, e⟩
    · exact absurd z.symm (nw d)
    · rw [List.getElem?_set_ne (fun q => z q.symm)]
      exact R.ow j d e
  · rcases set_get h1 with ⟨_, z⟩ | ⟨_, h1⟩
    · exact absurd z.symm (nw d)
    · rcases set_get h2 with ⟨_, z⟩ | ⟨_, h2⟩
      · exact absurd z.symm (nw e)
      · exact R.dj j k d e hjk h1 h2
  · rcases set_get e with ⟨_, z⟩ | ⟨z, e⟩
    · exact absurd z.symm (nw d)
    · rw [List.getElem?_set_ne (fun q => z q.symm)]
      exact R.prm q hq d e
  · rcases set_get e with ⟨_, z⟩ | ⟨_, e⟩
    · exact absurd z.symm (nw d)
    · exact ⟨j, d, e, ha⟩
theorem wipe_get : ∀ {own : List Nat} {i : Nat}, (i ∉ own → (wipe σ own)[i]? = σ[i]?) ∧ (i ∈ own → i < σ.length → (wipe σ own)[i]? = some none)
  | [], i => ⟨fun _ => rfl, fun h => by cases h⟩
  | j :: own, i => by
    obtain ⟨h1, h2⟩ := wipe_get (own := own) (i := i)
    unfold wipe
    by_cases z : j = i
    · subst z
      refine ⟨fun h => absurd List.mem_cons_self h, fun _ hl => ?_⟩
      rw [List.getElem?_set_self (by rw [wipe_length]; exact hl)]
    · rw [List.getElem?_set_ne z]
      refine ⟨fun h => h1 fun q => h (List.mem_cons_of_mem _ q), fun h => h2 ?_⟩
      rcases List.mem_cons.mp h with q | q
      · exact absurd q.symm z
      · exact q
theorem wipe_ext {σ σ' : L2.St} {own : List Nat} (hl : σ'.length = σ.length) (h : ∀ i, i ∉ own → σ'[i]? = σ[i]?) : wipe σ' own = wipe σ own := by
  refine List.ext_getElem? fun i => ?_
  by_cases q : i ∈ own
  · by_cases z : i < σ.length
    · rw [(wipe_get (σ := σ)).2 q z, (wipe_get (σ := σ')).2 q (by omega)]
    · rw [List.getElem?_eq_none (by rw [wipe_length]; omega), List.getElem?_eq_none (by rw [wipe_length]; omega)]
  · rw [(wipe_get (σ := σ)).1 q, (wipe_get (σ := σ')).1 q, h i q]
theorem wipe_wipe {own : List Nat} : wipe (wipe σ own) own = wipe σ own := wipe_ext (wipe_length _ _) fun i h => (wipe_get).1 h
theorem Rep.wipe : ∀ {own : List Nat}, Rep p P F H ρ σ fp → Rep p P F H (wipeE own ρ) (wipe σ own) fp ∧ ∀ a, Wn (wipeE own ρ) fp a → Wn ρ fp a
  | [], R => ⟨R, fun _ h => h⟩
  | j :: own, R => by
    obtain ⟨R1, h1⟩ := Rep.wipe (own := own) R
    obtain ⟨R2, h2⟩ := R1.setS (i := j) (w := .un) (v := none) trivial
    exact ⟨R2, fun a h => h1 a (h2 a h)⟩
theorem wipeE_get : ∀ {own : List Nat} {i : Nat}, (i ∉ own → (wipeE own ρ)[i]? = ρ[i]?)
  | [], i, _ => rfl
  | j :: own, i, h => by
    rw [List.mem_cons, not_or] at h
    show ((wipeE own ρ).set j .un)[i]? = _
    rw [List.getElem?_set_ne (fun z => h.1 z.symm)]
    exact wipeE_get h.2
theorem wipeE_length : ∀ (own : List Nat), (wipeE own ρ).length = ρ.length
  | [] => rfl
  | j :: own => by
    show ((wipeE own ρ).set j .un).length = _
    rw [List.length_set, wipeE_length own]
/-! ### targets -/
def gList : List Nat → TGs
  | [] => gNil
  | i :: is => gCons (gName i) (gList is)
def gT (K : Frag) : MT → TG
  | .nm i => gName i
  | .tp is => gTup K is.length (gList is)
def MT.slots : MT → List Nat
  | .nm i => [i]
  | .tp is => is
theorem setAll_go {K : Frag} : ∀ {is : List Nat} {ds : List D} {vs : List V} {ρ ρ' : Ev} {σ : L2.St} {Q : L2.St → Hp → Prop}, Rep p P F H ρ σ fp → AtL p F ds vs → setAll is ds ρ = some ρ' →
    (∀ σ', Rep p P F H ρ' σ' fp → (∀ a, Wn ρ' fp a → Wn ρ fp a) → (∀ i, i ∉ is → σ'[i]? = σ[i]?) → (∀ i, i ∉ is → ρ'[i]? = ρ[i]?) → Q σ' H) → gList is vs σ H Q
  | [], [], _, ρ, ρ', σ, Q, R, .nil, e, k => by
    simp [setAll] at e
    subst e
    exact ⟨rfl, k σ R (fun _ h => h) (fun _ _ => rfl) fun _ _ => rfl⟩
  | i :: is, d :: ds, v :: vs, ρ, ρ', σ, Q, R, .cons h t, e, k => by
    rw [setAll] at e
    obtain ⟨R1, h1⟩ := R.setS (i := i) (w := .sh d) (v := some v) h
    refine ⟨v, vs, rfl, setAll_go (K := K) R1 t e fun σ' R' h2 h3 h4 => k σ' R' (fun a w => h1 a (h2 a w)) (fun j hj => ?_) fun j hj => ?_⟩
    · rw [List.mem_cons, not_or] at hj
      rw [h3 j hj.2, List.getElem?_set_ne (fun z => hj.1 z.symm)]
    · rw [List.mem_cons, not_or] at hj
      rw [h4 j hj.2, List.getElem?_set_ne (fun z => hj.1 z.symm)]
  | [], _ :: _, _, _, _, _, _, _, _, e, _ => by simp [setAll] at e
  | _ :: _, [], _, _, _, _, _, _, _, e, _ => by simp [setAll] at e
theorem setAll_len : ∀ {is : List Nat} {ds : List D} {ρ ρ' : Ev}, setAll is ds ρ = some ρ' → ds.length = is.length
  | [], [], _, _, _ => rfl
  | i :: is, d :: ds, ρ, ρ', e => by
    rw [setAll] at e
    simp [setAll_len e]
  | [], _ :: _, _, _, e => by simp [setAll] at e
  | _ :: _, [], _, _, e => by simp [setAll] at e
theorem asg_go {t : MT} {d : D} {x : V} {Q : L2.St → Hp → Prop} (R : Rep p P F H ρ σ fp) (hx : At p F d x) (e : asgT t d ρ = some ρ')
    (k : ∀ σ', Rep p P F H ρ' σ' fp → (∀ a, Wn ρ' fp a → Wn ρ fp a) → (∀ i, i ∉ t.slots → σ'[i]? = σ[i]?) → (∀ i, i ∉ t.slots → ρ'[i]? = ρ[i]?) → Q σ' H) : gT p.K t x σ H Q := by
  cases t with
  | nm i =>
    simp [asgT] at e
    subst e
    obtain ⟨R1, h1⟩ := R.setS (i := i) (w := .sh d) (v := some x) hx
    refine k _ R1 h1 (fun j hj => ?_) fun j hj => ?_ <;>
    · have : i ≠ j := fun z => hj (by rw [z]; exact List.mem_singleton_self _)
      rw [List.getElem?_set_ne this]
  | tp is =>
    cases d with
    | tuple ds =>
      cases hx with
      | tup h l =>
        have e' : setAll is ds ρ = some ρ' := e
        refine ⟨_, _, rfl, R.sub.sqT h, by rw [← l.length]; exact setAll_len e', setAll_go (K := p.K) R l e' k⟩
    | _ => cases e
/-! ### a list that grows -/
/-- the new list at D, of nobody -/
structure Acc (p : Pm) (D : Addr) (F H : Hp) (W : Addr → Prop) (ds : List VL.D) : Prop where
  ex : ∃ vs, H D = some (.lst vs) ∧ AtL p F ds vs
  f : F D = none
  w : ¬ W D
theorem Acc.ext {D : Addr} {ds : List VL.D} (A : Acc p D F H W ds) (E : Ext F H W F' H' W') : Acc p D F' H' W' ds := by
  obtain ⟨vs, h1, h2⟩ := A.ex
  refine ⟨⟨vs, E.keep D _ h1 A.w, h2.mono E.same⟩, ?_, fun w => ?_⟩
  · cases z : F' D with
    | none => rfl
    | some o =>
      rcases E.newF D (by rw [z]; simp) with q | q | q
      · exact absurd A.f q
      · rw [h1] at q; cases q
      · exact absurd q A.w
  · rcases E.newW D w with q | q
    · exact A.w q
    · rw [h1] at q; cases q
theorem Acc.weak {D : Addr} {ds : List VL.D} (A : Acc p D F H W ds) (h : ∀ a, W' a → W a) : Acc p D F H W' ds := ⟨A.ex, A.f, fun w => A.w (h _ w)⟩
/-- behind the block: the frame's own slots -/
theorem backE_get {own : List Nat} {ρ0 ρ : Ev} (hl : ρ0.length = ρ.length) {i : Nat} : (i ∉ own → (backE own ρ0 ρ)[i]? = ρ[i]?) ∧ (i ∈ own → (backE own ρ0 ρ)[i]? = ρ0[i]?) ∧ (backE own ρ0 ρ).length = ρ.length := by
  induction own with
  | nil => exact ⟨fun _ => rfl, fun h => (by cases h), rfl⟩
  | cons j own ih =>
    obtain ⟨h1, h2, h3⟩ := ih
    show (_ → (match ρ0[j]? with | some v => (backE own ρ0 ρ).set j v | none => backE own ρ0 ρ)[i]? = _) ∧ (_ → (match ρ0[j]? with | some v => (backE own ρ0 ρ).set j v | none => backE own ρ0 ρ)[i]? = _) ∧ (match ρ0[j]? with | some v => (backE own ρ0 ρ).set j v | none => backE own ρ0 ρ).length = _
    cases e : ρ0[j]? with
    | none =>
      simp only
      refine ⟨fun h => h1 fun q => h (List.mem_cons_of_mem _ q), fun h => ?_, h3⟩
      rcases List.mem_cons.mp h with q | q
      · subst q
        have : ρ0.length ≤ i := List.getElem?_eq_none_iff.mp e
        rw [e, List.getElem?_eq_none (by omega)]
      · exact h2 q
    | some v =>
      simp only
      by_cases z : j = i
      · subst z
        refine ⟨fun h => absurd List.mem_cons_self h, fun _ => ?_, by rw [List.length_set]; exact h3⟩
        have : j < ρ0.length := (List.getElem?_eq_some_iff.mp e).1
        rw [e, List.getElem?_set_self (by omega)]
      · rw [List.getElem?_set_ne z]
        refine ⟨fun h => h1 fun q => h (List.mem_cons_of_mem _ q), fun h => ?_, by rw [List.length_set]; exact h3⟩
        rcases List.mem_cons.mp h with q | q
        · exact absurd q.symm z
        · exact h2 q
theorem noOw_get {own : List Nat} (h : noOw ρ own = true) : ∀ i ∈ own, ∃ w, ρ[i]? = some w ∧ ∀ d, w ≠ .ow d := fun i hi => by
  have := List.all_eq_true.mp h i hi
  split at this
  · cases this
  · rename_i w hw e
    exact ⟨w, e, fun d z => hw d z⟩
  · cases this
theorem Rep.back {own : List Nat} {ρ1 : Ev} {F1 H1 : Hp} {fp1 : Nat → List Addr} (R1 : Rep p P F1 H1 ρ1 σ fp1) (no : noOw ρ1 own = true) (s : Same F1 F) (R : Rep p P F H ρ (L2.wipe σ own) fp) :
    Rep p P F H (backE own ρ1 ρ) σ fp ∧ ∀ a, Wn (backE own ρ1 ρ) fp a → Wn ρ fp a := by
  have hl : ρ1.length = ρ.length := by rw [R1.len, R.len, wipe_length]
  have own' : ∀ (i : Nat) d, (backE own ρ1 ρ)[i]? = some (.ow d) → i ∉ own ∧ ρ[i]? = some (.ow d) := fun i d e => by
    obtain ⟨h1, h2, _⟩ := backE_get (own := own) hl (i := i)
    by_cases q : i ∈ own
    · rw [h2 q] at e
      obtain ⟨w, e', n⟩ := noOw_get no i q
      rw [e] at e'
      exact absurd (Option.some.inj e').symm (n d)
    · rw [h1 q] at e
      exact ⟨q, e⟩
  refine ⟨⟨R.sub, ?_, fun i d e => ?_, fun i d e => ?_, fun i j d e hij h1 h2 => ?_, fun q hq d e => ?_⟩, fun a ⟨i, d, e, ha⟩ => ⟨i, d, (own' i d e).2, ha⟩⟩
  · rw [(backE_get (own := own) hl (i := 0)).2.2, R.len, wipe_length]
  · obtain ⟨h1, h2, _⟩ := backE_get (own := own) hl (i := i)
    by_cases q : i ∈ own
    · rw [h2 q] at e
      obtain ⟨v, h3, h4⟩ := R1.sh i d e
      exact ⟨v, h3, h4.mono s⟩
    · rw [h1 q] at e
      obtain ⟨v, h3, h4⟩ := R.sh i d e
      rw [(wipe_get).1 q] at h3
      exact ⟨v, h3, h4⟩
  · obtain ⟨q, e⟩ := own' i d e
    obtain ⟨v, h3, h4⟩ := R.ow i d e
    rw [(wipe_get).1 q] at h3
    exact ⟨v, h3, h4⟩
  · exact R.dj i j d e hij (own' i d h1).2 (own' j e h2).2
  · obtain ⟨q', e⟩ := own' _ d e
    obtain ⟨h1, h2⟩ := R.prm q hq d e
    rw [(wipe_get).1 q'] at h1
    exact ⟨h1, h2⟩
end
end VL

set_option Elab.async false
set_option linter.all false
set_option maxRecDepth 100000
/-! V17: comprehensions. -/
namespace VL
open PySem PySem.Spec PySem.W PyProof.Rows L2 StX

section
variable {p : Pm} {P : Pr} {F0 H0 F1 : Hp} {W0 : Addr → Prop} {σ : L2.St}
/-- the state between two turns of a block: the new list at D holds acc -/
structure Bt (p : Pm) (P : Pr) (F0 H0 F1 : Hp) (W0 : Addr → Prop) (σ : L2.St) (D : Addr) (H : Hp) (x : Ev × List VL.D) : Prop where
  st : ∃ F fp, Ext F0 H0 W0 F H (Wn x.1 fp) ∧ Rep p P F H x.1 σ fp ∧ Acc p D F H (Wn x.1 fp) x.2 ∧ Same F1 F
theorem setAll_length : ∀ {is : List Nat} {ds : List VL.D} {ρ ρ' : Ev}, setAll is ds ρ = some ρ' → ρ'.length = ρ.length
  | [], [], _, _, e => by simp [setAll] at e; subst e; rfl
  | i :: is, d :: ds, ρ, ρ', e => by
    rw [setAll] at e
    rw [setAll_length e, List.length_set]
  | [], _ :: _, _, _, e => by simp [setAll] at e
  | _ :: _, [], _, _, e => by simp [setAll] at e
theorem asgT_length {t : MT} {d : VL.D} {ρ ρ' : Ev} (h : asgT t d ρ = some ρ') : ρ'.length = ρ.length := by
  cases t with
  | nm i => simp [asgT] at h; subst h; rw [List.length_set]
  | tp is =>
    cases d with
    | tuple ds => exact setAll_length (show setAll is ds ρ = some ρ' from h)
    | _ => cases h
theorem turn_go {own : List Nat} {t : MT} {fc : FC} {fe : FE} {d : VL.D} {x : V} {ρ : Ev} {acc : List VL.D} {D : Addr} {F H : Hp} {fp : Nat → List Addr} {K : Ev × List VL.D → Prop} (ok : POk p) (ho : ∀ i ∈ t.slots, i ∈ own) (n0 : H0 D = none)
    (E : Ext F0 H0 W0 F H (Wn ρ fp)) (R : Rep p P F H ρ (wipe σ own) fp) (A : Acc p D F H (Wn ρ fp) acc) (s1 : Same F1 F) (hx : At p F d x) (h : wpR (fun _ => False) K (turnC own t fc fe d ρ acc)) :
    gT p.K t x (wipe σ own) H fun σ2 H2 => wipe σ2 own = wipe σ own ∧ tT p P fc σ2 H2 fun b H3 =>
      if b = true then tE p P fe σ2 H3 fun y H4 => ∃ ac, H4 D = some (.lst ac) ∧ ac.length < sizeLine ∧ ∃ z, K z ∧ Bt p P F0 H0 F1 W0 (wipe σ own) D (upd H4 D (.lst (ac ++ [y]))) z else ∃ z, K z ∧ Bt p P F0 H0 F1 W0 (wipe σ own) D H3 z := by
  unfold turnC at h
  simp only [wpR_bind, wpR_lift] at h
  obtain ⟨ρ1, h1, h⟩ := h
  refine asg_go R hx h1 fun σ2 R2 hw hs hs' => ?_
  have ew : wipe σ2 own = wipe σ own := by
    have : wipe σ2 own = wipe (wipe σ own) own := wipe_ext (by rw [← R2.len, ← R.len]; exact asgT_length h1) fun i hi => hs i fun q => hi (ho i q)
    rw [this, wipe_wipe]
  refine ⟨ew, tT.go (E.weakW hw) R2 (wpR_mono h (fun _ z => z.elim) fun _ z => z) fun b g F2 H2 fp2 E2 Er2 R2' => ?_⟩
  have A2 := (A.weak hw).ext Er2
  obtain ⟨b, ρ2⟩ := b
  cases b with
  | false =>
    have g : K (wipeE own ρ2, acc) := g
    obtain ⟨R3, hw3⟩ := R2'.wipe (own := own)
    rw [ew] at R3
    exact ⟨_, g, ⟨F2, fp2, E2.weakW hw3, R3, A2.weak hw3, s1.trans Er2.same⟩⟩
  | true =>
    simp only [if_true, wpR_bind] at g ⊢
    refine fz_go ok E2 R2' (wpR_mono g (fun _ z => z.elim) fun _ z => z) fun y g F3 H3 fp3 v E3 Er3 R3 A3 => ?_
    have A4 := A2.ext Er3
    obtain ⟨vs, hv, lv⟩ := A4.ex
    split at g
    · rename_i hl
      have g : K (wipeE own y.2, acc ++ [y.1]) := g
      refine ⟨vs, hv, ?_, _, g, ?_⟩
      · rw [← lv.length]
        exact Nat.lt_of_lt_of_le hl lim_line
      · obtain ⟨E4, R4⟩ := R3.free (o := .lst (vs ++ [v])) E3 n0 A4.f A4.w
        obtain ⟨R5, hw5⟩ := R4.wipe (own := own)
        rw [ew] at R5
        exact ⟨F3, fp3, E4.weakW hw5, R5, ⟨⟨vs ++ [v], upd_same, lv.append (.cons A3 .nil)⟩, A4.f, fun w => A4.w (hw5 _ w)⟩, s1.trans (Er2.same.trans Er3.same)⟩
    · exact g.elim
theorem drop_cons {ds : List VL.D} {i : Nat} (h : i < ds.length) : ds.drop i = ds[i] :: ds.drop (i + 1) := List.drop_eq_getElem_cons h
theorem seqComp {own : List Nat} {t : MT} {fi : FA} {fc : FC} {fe : FE} {H : Hp} {Q : VK} (ok : POk p) (ho : ∀ i ∈ t.slots, i ∈ own) (h : tE p P (fComp own t fi fc fe) σ H Q) :
    tLc (tI p P fi) (gT p.K t) (tT p P.nox fc) (tE p P.nox fe) own σ H Q := by
  obtain ⟨F, ρ, fp, R, h⟩ := h
  unfold fComp at h
  simp only [wpR_bind] at h
  refine ⟨F, ρ, fp, R, wpR_mono h (fun _ e => e) fun x g F1 H1 fp1 J E1 R1 wk => ?_⟩
  split at g
  · rename_i no
    simp only [wpR_bind, wpR_noEx, wpR_pure] at g
    intro D hD
    have n0 : H D = none := E1.back hD
    obtain ⟨E2, R2, nF, nW⟩ := R1.newH (o := .lst []) hD
    obtain ⟨R3, hw3⟩ := (R2.cast (P' := P.nox) rfl).wipe (own := own)
    refine ⟨fun i m H' => m = x.1.length - i ∧ i ≤ x.1.length ∧ ∃ z, wpR (fun _ => False) (fun a => ∀ F' H' fp' v, Ext F H (Wn ρ fp) F' H' (Wn (backE own x.2 a.1) fp') → Rep p P F' H' (backE own x.2 a.1) σ fp' → Val p H F' H' (backE own x.2 a.1) σ fp' (.fr (.list a.2)) v → Q v H') (loopC (turnC own t fc fe) (x.1.drop i) z.1 z.2) ∧ Bt p P.nox F H F1 (Wn ρ fp) (wipe σ own) D H' z,
      ⟨x.1.length, by simp, Nat.zero_le _, (wipeE own x.2, []), g, ⟨F1, fp1, (E1.trans E2).weakW hw3, R3, ⟨⟨[], upd_same, .nil⟩, nF, fun w => nW (hw3 _ w)⟩, Same.refl⟩⟩, ?_⟩
    rintro i m H' ⟨rfl, hi, z, hz, ⟨F', fp', E', R', A', s'⟩⟩
    have wk' := wk F' H' s' R'.sub i
    by_cases hlt : i < x.1.length
    · refine .inr ⟨(wk'.1 x.1[i] (List.getElem?_eq_getElem hlt)).1, fun H2 => ∃ z, wpR (fun _ => False) (fun a => ∀ F' H' fp' v, Ext F H (Wn ρ fp) F' H' (Wn (backE own x.2 a.1) fp') → Rep p P F' H' (backE own x.2 a.1) σ fp' → Val p H F' H' (backE own x.2 a.1) σ fp' (.fr (.list a.2)) v → Q v H') (loopC (turnC own t fc fe) (x.1.drop (i + 1)) z.1 z.2) ∧ Bt p P.nox F H F1 (Wn ρ fp) (wipe σ own) D H2 z,
        fun H2 z => ⟨x.1.length - (i + 1), by omega, rfl, hlt, z⟩, fun v H2 y => ?_⟩
      obtain ⟨F2, nw, s2, hx⟩ := (wk'.1 x.1[i] (List.getElem?_eq_getElem hlt)).2 v H2 y
      rw [drop_cons hlt] at hz
      unfold loopC at hz
      rw [wpR_bind] at hz
      exact turn_go ok ho n0 (E'.trans nw.ext) (R'.new nw s2) (A'.ext nw.ext) (s'.trans nw.f) hx hz
    · have e : i = x.1.length := by omega
      refine .inl ⟨wk'.2 e.symm, ?_⟩
      rw [e, List.drop_length] at hz
      have hz : ∀ F' H' fp' v, Ext F H (Wn ρ fp) F' H' (Wn (backE own x.2 z.1) fp') → Rep p P F' H' (backE own x.2 z.1) σ fp' → Val p H F' H' (backE own x.2 z.1) σ fp' (.fr (.list z.2)) v → Q v H' := hz
      obtain ⟨R4, hw4⟩ := R1.back no s' (R'.cast (P' := P) rfl)
      obtain ⟨vs, hv, lv⟩ := A'.ex
      exact hz F' H' fp' (.ref D) (E'.weakW hw4) R4 ⟨[D], .lst hv lv, fun b hb => by
        simp at hb
        subst hb
        exact ⟨A'.f, n0, fun w => A'.w (hw4 _ w)⟩⟩
  · exact g.elim
end
end VL

set_option Elab.async false
set_option linter.all false
set_option maxRecDepth 100000
/-! V18: dict comprehensions over nested keys (the core follows the shape of the kit's own rule for int and text keys). -/
namespace VL
open PySem PySem.Spec PySem.W PyProof.Rows L2 StX

section
variable {X : Cx} {cls : Nat → Option (Addr × List Str)}
def tDcO (p : Pm) (wi : TI) (g : TG) (tt : TT) (tk tv : TE) (vs : List Nat) : TE := fun σ H Q => wi σ H fun J H1 => ∀ D, H1 D = none → ∃ W : Nat → Nat → Hp → Prop, (∃ m, W 0 m (upd H1 D (dO p.P p.w D [] 0))) ∧ ∀ i m H, W i m H →
  (J.stop i H ∧ Q (.ref D) H) ∨ (J.go i H ∧ ∃ Nx : Hp → Prop, (∀ H', Nx H' → ∃ m', m' < m ∧ W (i + 1) m' H') ∧ ∀ x H', J.yld i H x H' → g x (wipe σ vs) H' fun σ2 H2 => wipe σ2 vs = wipe σ vs ∧ tt σ2 H2 fun b H3 =>
    if b = true then tk σ2 H3 fun y H4 => tv σ2 H4 fun z H5 => ∃ F xs ep kvs b kd k, Same F H5 ∧ y = .ref b ∧ H5 D = some (dO p.P p.w D xs ep) ∧ AtK p F kvs xs ∧ xs.length < sizeLine ∧ At p F kd (.ref b) ∧ keyOf kd = some k ∧ k.depth ≤ 8 ∧ ∀ u ep', RelV z u → Nx (upd H5 D (dO p.P p.w D (storedH xs k b u) ep')) else Nx H3)
theorem dcO_core {pins : List (Addr × Obj)} {s : Shared} {σ : L2.St} {H : Hp} {Q : VK} {kx vx tg iter : Expr} {ifs : List Expr} {scope : Scope} {own : List (Str × Nat)} {pos pos' : Pos} {wi : TI} {g : TG} {tt : TT} {tk tv : TE} {use : Option (Value → Sem Unit)} {Qf : Value → Shared → Prop}
    (hr : X.A.units + 64 < cLine) (hc : X.calm = true) (hN : X.N.Nodup) (I : L2.Inv X pins σ H s) (hi : PI X tg iter wi) (ok : BlkOk X.N X.env.scope scope own)
    (hg : ∀ (s : Shared) (H : Hp) (C : Addr) (cl : List (Str × Addr)) (fp : List Addr), PG (X.blk s H scope (compEnvC scope cl C X.env) fp) tg g) (ht : ∀ (s : Shared) (H : Hp) (C : Addr) (cl : List (Str × Addr)) (fp : List Addr), PTs (X.blk s H scope (compEnvC scope cl C X.env) fp) ifs tt)
    (hk : ∀ (s : Shared) (H : Hp) (C : Addr) (cl : List (Str × Addr)) (fp : List Addr), PE (X.blk s H scope (compEnvC scope cl C X.env) fp) kx tk)
    (he : ∀ (s : Shared) (H : Hp) (C : Addr) (cl : List (Str × Addr)) (fp : List Addr), PE (X.blk s H scope (compEnvC scope cl C X.env) fp) vx tv) (hs : ∀ x, foldedSetIterable iter X.env x = pure x)
    (h : tDcO (pmOf X cls) wi g tt tk tv (own.map (·.2)) σ H Q)
    (hRR : ∀ D C s' m H', L2.Inv X pins σ H' s' → Q (.ref D) H' → s'.heap.Ns C m → FpOk X pins H' C → compPost (model X.prog X.w) X.A X.xe use Qf (.ref D) C (.ok .next) s') :
    wpAny (model X.prog X.w) X.A (comprehension (.DictComp kx vx [⟨tg, iter, ifs, 0⟩] scope pos) scope X.env pos' newDict false (eval iter X.env) use) Qf X.xe s := by
  have hfree : ∀ y ∈ scope.names, y.2 = .free → ∃ c, X.env.cells.lookup y.1 = some c := fun y hy e => by
    rcases ok.free y hy e with k | k
    · exact I.ok.has _ (.inl k)
    · exact I.ok.has _ (.inr k)
  refine wpAny_comprehension_free (use := use) rfl hs (closure_ok hfree) ok.kind (fun y hy e => by rw [ok.uniq y hy, e])
    (thn (hi.run pins s σ H _ I h) fun xv s1 hx => thn hx fun itv s2 h2 => ?_)
  obtain ⟨it, fp, tn, J, H2, e, I2, T, st2, f2, q⟩ := h2
  subst e
  refine wpAny_newObj_type (newEnv_comp ?_)
  generalize hD : s2.heap.objs.size = D
  have hDn : H2 D = none := I2.hok.fresh (Nat.le_of_eq hD)
  obtain ⟨W, ⟨m0, w0⟩, turn⟩ := q D hDn
  -- the new list
  generalize hs3 : ({ s2 with heap := s2.heap.push { cls := .type "dict", data := .dict #[] } } : Shared) = s3
  have I3 : L2.Inv X pins σ (upd H2 D (dO X.prog X.w D [] 0)) s3 := by
    rw [← hs3]
    refine I2.laid (t' := s2.toks) (fun b o e => Heap.get?_push_of_some _ e) (Nat.le_of_eq hD) ?_
    rw [← hD]
    exact dO_empty s2.heap I2.big
  have h3 : s3.heap = s2.heap.push { cls := .type "dict", data := .dict #[] } := by rw [← hs3]
  have sz : ∀ b ∈ fp, b < s2.heap.objs.size := fun b hb => by
    obtain ⟨o, e, _⟩ := T.obj _ _ st2 b hb
    exact Heap.lt_size e
  have f3 : ∀ b ∈ fp, FpOk X pins (upd H2 D (dO X.prog X.w D [] 0)) b ∧ b < s3.heap.objs.size := fun b hb => by
    have hlt := sz b hb
    refine ⟨⟨?_, (f2 b hb).2⟩, by rw [h3, Heap.size_push]; exact Nat.lt_succ_of_lt hlt⟩
    rw [upd_ne (by rw [← hD]; exact Nat.ne_of_lt hlt)]
    exact (f2 b hb).1
  have st3 : tn 0 s3.heap := T.keep _ _ _ st2 fun b _ o e => by rw [h3]; exact Heap.get?_push_of_some _ e
  have I4 := block_start I3 ok hN f3
  have pg := hg s3 (upd H2 D (dO X.prog X.w D [] 0)) s3.heap.objs.size (cellsFrom (s3.heap.objs.size + 1) scope.names (cloFrom X.env.cells scope.names [])) fp
  have pt := ht s3 (upd H2 D (dO X.prog X.w D [] 0)) s3.heap.objs.size (cellsFrom (s3.heap.objs.size + 1) scope.names (cloFrom X.env.cells scope.names [])) fp
  have pk := hk s3 (upd H2 D (dO X.prog X.w D [] 0)) s3.heap.objs.size (cellsFrom (s3.heap.objs.size + 1) scope.names (cloFrom X.env.cells scope.names [])) fp
  have pe := he s3 (upd H2 D (dO X.prog X.w D [] 0)) s3.heap.objs.size (cellsFrom (s3.heap.objs.size + 1) scope.names (cloFrom X.env.cells scope.names [])) fp
  show codeAny _ _ (.compStart (.DictComp kx vx [⟨tg, iter, ifs, 0⟩] scope pos) 0 (.ref it) (.ref D) (compEnvC scope (cellsFrom (s3.heap.objs.size + 1) scope.names (cloFrom X.env.cells scope.names [])) s3.heap.objs.size X.env)) (compPost (model X.prog X.w) X.A X.xe use Qf (.ref D) s3.heap.objs.size) { s3 with heap := pushCells (s3.heap.push { cls := .type "dict", data := .dict #[] }) scope.names }
  have nfp : ∀ b ∈ fp, (upd H2 D (dO X.prog X.w D [] 0)) b = none := fun b hb => (f3 b hb).1.1
  generalize hce : compEnvC scope (cellsFrom (s3.heap.objs.size + 1) scope.names (cloFrom X.env.cells scope.names [])) s3.heap.objs.size X.env = ce at I4 pg pt pk pe ⊢
  have cL : ce.locals = s3.heap.objs.size := by subst hce; rfl
  generalize hH3 : upd H2 D (dO X.prog X.w D [] 0) = H3 at I3 I4 pg pt pk pe w0 nfp f3
  generalize hs4 : ({ s3 with heap := pushCells (s3.heap.push { cls := .type "dict", data := .dict #[] }) scope.names } : Shared) = s4 at I4 ⊢
  have st4 : tn 0 s4.heap := T.keep _ _ _ st3 fun b _ o e => by rw [← hs4]; exact pushCells_keeps _ _ _ _ (Heap.get?_push_of_some _ e)
  have stat : ∀ {σ' : L2.St} {H' : Hp} {s' : Shared}, L2.Inv (X.blk s3 H3 scope ce fp) [] σ' H' s' → (∀ b ∈ fp, H' b = none) → ∀ b ∈ fp, FpOk (X.blk s3 H3 scope ce fp) [] H' b := fun {σ' H' s'} I' hn b hb =>
    ⟨hn b hb, (I'.ok.exf b hb).1, I'.ok.exfs b hb, .inl hb, fun x c e => (I'.ok.exf b hb).2 x c e, fun p hp => absurd (show p ∈ ([] : List (Addr × Obj)) ++ [] from hp) (by simp)⟩
  have loop : codeAny (model X.prog X.w) X.A (.compLoop (.DictComp kx vx [⟨tg, iter, ifs, 0⟩] scope pos) 0 (.ref it) (.ref D) ce) (compPost (model X.prog X.w) X.A X.xe use Qf (.ref D) s3.heap.objs.size) s4 := by
    refine compLoop_anyD (fun n s' => ∃ i H', L2.Inv (X.blk s3 H3 scope ce fp) [] (wipe σ (own.map (·.2))) H' s' ∧ tn i s'.heap ∧ (∀ b ∈ fp, H' b = none) ∧ W i n H') ?_ m0 ⟨0, H3, I4, st4, nfp, w0⟩
    rintro n s5 ⟨i, H5, I5, st5, n5, w5⟩
    rcases turn i n H5 w5 with ⟨stop, qq⟩ | ⟨go, Nx, hNx, step⟩
    · have td := T.done (X.blk s3 H3 scope ce fp) rfl rfl rfl hc i [] s5 _ H5 (fun _ _ => False) I5 (stat I5 n5) st5 stop
      refine thnF td fun r s6 ⟨hr, I6⟩ => ?_
      subst hr
      -- back in the def's context
      have I7 : L2.Inv X pins σ H5 s6 := I3.call' (ch := fp) I6.os I6.base I6.hok I6.bare fun b hb => ⟨(f3 b hb).1.2.2.2.1, (f3 b hb).1.2.1, (f3 b hb).1.2.2.2.2.1, (f3 b hb).1.2.2.2.2.2⟩
      have nC : H5 s3.heap.objs.size = none := by
        have z : H5 ce.locals = none := I6.free
        rw [cL] at z
        exact z
      obtain ⟨m, hn, _⟩ := I6.loc
      have hn : s6.heap.Ns ce.locals m := hn
      rw [cL] at hn
      exact hRR D s3.heap.objs.size s6 m H5 I7 qq hn (I3.fpOk (Nat.le_refl _) nC)
    · have ti := T.item (X.blk s3 H3 scope ce fp) rfl rfl rfl hc i [] s5 _ H5 (fun _ _ => False) I5 (stat I5 n5) st5 go
      refine thnF ti fun r s6 ⟨u, hr, h6⟩ => ?_
      subst hr
      refine thnF h6 fun _ s7 ⟨x, H7, I7, r7, y7, st7, n7⟩ => ?_
      have I7' := I7.pinned (stat I7 n7) (T.obj _ _ st7)
      refine thnF (pg.run _ s7 _ H7 x u _ I7' r7 (step x H7 y7)) fun _ s8 ⟨σ8, H8, I8, hw8, q8⟩ => ?_
      refine thnF (pt.run _ s8 σ8 H8 _ I8 q8) fun b s9 ⟨H9, I9, q9⟩ => ?_
      -- the turn's end
      have fin : ∀ {s' : Shared} {H' : Hp}, L2.Inv (X.blk s3 H3 scope ce fp) ([] ++ pinsAt fp s7.heap) σ8 H' s' → Nx H' → ∃ m, m < n ∧ ∃ i H', L2.Inv (X.blk s3 H3 scope ce fp) [] (wipe σ (own.map (·.2))) H' s' ∧ tn i s'.heap ∧ (∀ b ∈ fp, H' b = none) ∧ W i m H' := fun {s' H'} I' nx => by
        obtain ⟨m', hm, w'⟩ := hNx H' nx
        have pin' : ∀ b ∈ fp, ∀ o, s7.heap.get? b = some o → s'.heap.get? b = some o ∧ H' b = none := fun b hb o e =>
          let z := I'.pin (b, o) (List.mem_append_right _ (List.mem_append_right _ (mem_pinsAt hb e)))
          ⟨z.1, z.2.1⟩
        have hl : (wipe σ (own.map (·.2))).length = σ8.length := by rw [← hw8, wipe_length]
        refine ⟨m', hm, i + 1, H', (I'.unpinned (pins := [])).weak hl (fun j v e => ?_), T.keep _ _ _ st7 fun b hb o e => (pin' b hb o e).1, fun b hb => ?_, w'⟩
        · rw [← hw8] at e
          exact (wipe_some e).1
        · obtain ⟨o, e, _⟩ := T.obj _ _ st7 b hb
          exact (pin' b hb o e).2
      cases b with
      | false =>
        simp only [Bool.false_eq_true, if_false] at q9 ⊢
        exact fin I9 q9
      | true =>
        simp only [if_true] at q9 ⊢
        refine thnF (pk.run _ s9 σ8 H9 _ I9 q9) fun z s10 ⟨yk, H10, I10, r10, q10⟩ => ?_
        refine thnF (pe.run _ s10 σ8 H10 _ I10 q10) fun z2 s11 ⟨yv, H11, I11, r11, F, xs, ep, kvs, b, kd, k, sF, ek, hD11, ak, hz11, hk, ke, kn, nx⟩ => ?_
        subst ek
        cases r10
        exact dO_dictSet (X := X.blk s3 H3 scope ce fp) (cls := cls) I11 sF hr hD11 ak hz11 hk ke kn fun s12 ep' I12 => fin I12 (nx z2 ep' r11)
  exact codeAny_compStart_dict loop (T.self X.A 0 _ _ _ st4 loop)
/-- as a value -/
theorem pe_dcO {kx vx tg iter : Expr} {ifs : List Expr} {scope : Scope} {own : List (Str × Nat)} {pos : Pos} {wi : TI} {g : TG} {tt : TT} {tk tv : TE} (hr : X.A.units + 64 < cLine) (hc : X.calm = true) (hN : X.N.Nodup) (hi : PI X tg iter wi) (ok : BlkOk X.N X.env.scope scope own)
    (hg : ∀ (s : Shared) (H : Hp) (C : Addr) (cl : List (Str × Addr)) (fp : List Addr), PG (X.blk s H scope (compEnvC scope cl C X.env) fp) tg g) (ht : ∀ (s : Shared) (H : Hp) (C : Addr) (cl : List (Str × Addr)) (fp : List Addr), PTs (X.blk s H scope (compEnvC scope cl C X.env) fp) ifs tt)
    (hk : ∀ (s : Shared) (H : Hp) (C : Addr) (cl : List (Str × Addr)) (fp : List Addr), PE (X.blk s H scope (compEnvC scope cl C X.env) fp) kx tk)
    (he : ∀ (s : Shared) (H : Hp) (C : Addr) (cl : List (Str × Addr)) (fp : List Addr), PE (X.blk s H scope (compEnvC scope cl C X.env) fp) vx tv) (hs : ∀ x, foldedSetIterable iter X.env x = pure x := by intro _; rfl) :
    PE X (.DictComp kx vx [⟨tg, iter, ifs, 0⟩] scope pos) (tDcO (pmOf X cls) wi g tt tk tv (own.map (·.2))) := by
  refine ⟨fun pins s σ H Q I h => ?_⟩
  rw [arm_eval_DictComp]
  refine dcO_core (cls := cls) hr hc hN I hi ok hg ht hk he hs h fun D C s' m H' I' q hn f => ⟨m, hn, fun h'' sb => ?_⟩
  obtain ⟨f0, f1, f2, f3, f4, f5⟩ := f
  exact ⟨.ref D, H', I'.turned (t' := s'.toks) (fun b o hb e => (sb.2 b hb).trans e) f0 f1 f3 f4 f5, rfl, q⟩

/-- name = {..} on one line, the name a local -/
theorem ps_setDcO {i : Nat} {y : Str} {py : Pos} {kx vx tg iter : Expr} {ifs : List Expr} {scope : Scope} {own : List (Str × Nat)} {pos spos : Pos} {wi : TI} {g : TG} {tt : TT} {tk tv : TE} (hr : X.A.units + 64 < cLine) (hc : X.calm = true) (hN : X.N.Nodup) (hy : X.N[i]? = some y) (hyl : X.env.scope.names.lookup y = some .local)
    (hsw : swapsWith (.DictComp kx vx [⟨tg, iter, ifs, 0⟩] scope pos) (some (.Name y py)) spos.line X.env = pure true) (hi : PI X tg iter wi) (ok : BlkOk X.N X.env.scope scope own)
    (hg : ∀ (s : Shared) (H : Hp) (C : Addr) (cl : List (Str × Addr)) (fp : List Addr), PG (X.blk s H scope (compEnvC scope cl C X.env) fp) tg g) (ht : ∀ (s : Shared) (H : Hp) (C : Addr) (cl : List (Str × Addr)) (fp : List Addr), PTs (X.blk s H scope (compEnvC scope cl C X.env) fp) ifs tt)
    (hk : ∀ (s : Shared) (H : Hp) (C : Addr) (cl : List (Str × Addr)) (fp : List Addr), PE (X.blk s H scope (compEnvC scope cl C X.env) fp) kx tk)
    (he : ∀ (s : Shared) (H : Hp) (C : Addr) (cl : List (Str × Addr)) (fp : List Addr), PE (X.blk s H scope (compEnvC scope cl C X.env) fp) vx tv) (hs : ∀ x, foldedSetIterable iter X.env x = pure x) :
    PS X (.Assign [.Name y py] (.DictComp kx vx [⟨tg, iter, ifs, 0⟩] scope pos) spos) (tAsg (tDcO (pmOf X cls) wi g tt tk tv (own.map (·.2))) (gName i)) := by
  refine ⟨fun pins s σ H D I h => ?_⟩
  rw [exec_Assign_Name_used _ _ _ _ hsw]
  refine wpAny_bind (wpAny_standAt (wpAny_bind ?_))
  show wpAny _ X.A (do let _ ← comprehension (.DictComp kx vx [⟨tg, iter, ifs, 0⟩] scope pos) scope X.env (firstIterPos [⟨tg, iter, ifs, 0⟩] pos) newDict false (eval iter X.env) (some (assign (.Name y py) X.env))) _ _ s
  have h : tDcO (pmOf X cls) wi g tt tk tv (own.map (·.2)) σ H (fun x H1 => gName i x σ H1 D.nx) := h
  refine wpAny_bind (thn (dcO_core (cls := cls) (Qf := fun _ s' => SP X pins D .next s') hr hc hN I hi ok hg ht hk he hs h fun L C s' m H' I' q hn f => ?_) fun _ s' hq => wpAny_pure (wpAny_pure hq))
  show wpAny _ _ (assign (.Name y py) X.env (.ref L)) _ _ _
  refine wpAny_assign_Name (store_ok2 (v := V.ref L) I' hN hy (.inl hyl) rfl (fun s2 I2 ⟨a, sb, ha⟩ => ?_) (.inr hyl))
  obtain ⟨f0, f1, f2, f3, f4, f5⟩ := f
  have haC : C ≠ a := by
    rcases ha with z | z
    · rw [z]; exact f1
    · exact fun e => f4 y a z e.symm
  refine ⟨m, hn.sameBut sb haC, fun h3 sb3 => ?_⟩
  exact ⟨_, H', I2.turned (t' := s2.toks) (fun b o hb e => (sb3.2 b hb).trans e) f0 f1 f3 f4 f5, q⟩
end
end VL

set_option Elab.async false
set_option linter.all false
set_option maxRecDepth 100000
/-! V19: the readings of nested and dict comprehensions. -/
namespace VL
open PySem PySem.Spec PySem.W PyProof.Rows L2 StX

section
variable {p : Pm} {P : Pr} {F0 H0 F1 : Hp} {W0 : Addr → Prop} {σ : L2.St}
theorem seqComp2 {own own1 : List Nat} {t t1 : MT} {fi fi1 : FA} {fc fc1 : FC} {fe : FE} {H : Hp} {Q : VK} (ok : POk p) (ho : ∀ i ∈ t.slots, i ∈ own) (ho1 : ∀ i ∈ t1.slots, i ∈ own1) (hoo : ∀ i ∈ own1, i ∈ own) (h : tE p P (fComp2 own own1 t fi fc t1 fi1 fc1 fe) σ H Q) :
    tLc2 (tI p P fi) (gT p.K t) (tT p P.nox fc) (tI p P.nox fi1) (gT p.K t1) (tT p P.nox fc1) (tE p P.nox fe) own own1 σ H Q := by
  obtain ⟨F, ρ, fp, R, h⟩ := h
  unfold fComp2 at h
  simp only [wpR_bind] at h
  refine ⟨F, ρ, fp, R, wpR_mono h (fun _ e => e) fun x g F1 H1 fp1 J E1 R1 wk => ?_⟩
  split at g
  · rename_i no
    simp only [wpR_bind, wpR_noEx, wpR_pure] at g
    intro D hD
    have n0 : H D = none := E1.back hD
    obtain ⟨E2, R2, nF, nW⟩ := R1.newH (o := .lst []) hD
    obtain ⟨R3, hw3⟩ := (R2.cast (P' := P.nox) rfl).wipe (own := own)
    generalize hK : (fun a : Ev × List VL.D => ∀ F' H' fp' v, Ext F H (Wn ρ fp) F' H' (Wn (backE own x.2 a.1) fp') → Rep p P F' H' (backE own x.2 a.1) σ fp' → Val p H F' H' (backE own x.2 a.1) σ fp' (.fr (.list a.2)) v → Q v H') = K at g
    refine ⟨fun i m H' => m = x.1.length - i ∧ i ≤ x.1.length ∧ ∃ z : Ev × List VL.D, wpR (fun _ => False) K (loopC (turnC2 own own1 t fc fi1 t1 fc1 fe) (x.1.drop i) z.1 z.2) ∧ Bt p P.nox F H F1 (Wn ρ fp) (wipe σ own) D H' z,
      ⟨x.1.length, by simp, Nat.zero_le _, (wipeE own x.2, []), g, ⟨F1, fp1, (E1.trans E2).weakW hw3, R3, ⟨⟨[], upd_same, .nil⟩, nF, fun w => nW (hw3 _ w)⟩, Same.refl⟩⟩, ?_⟩
    rintro i m H' ⟨rfl, hi, z, hz, ⟨F', fp', E', R', A', s'⟩⟩
    have wk' := wk F' H' s' R'.sub i
    by_cases hlt : i < x.1.length
    · rw [drop_cons hlt] at hz
      unfold loopC at hz
      rw [wpR_bind] at hz
      generalize hK2 : (fun z : Ev × List VL.D => wpR (fun _ => False) K (loopC (turnC2 own own1 t fc fi1 t1 fc1 fe) (x.1.drop (i + 1)) z.1 z.2)) = K2 at hz
      refine .inr ⟨(wk'.1 x.1[i] (List.getElem?_eq_getElem hlt)).1, fun H2 => ∃ z, K2 z ∧ Bt p P.nox F H F1 (Wn ρ fp) (wipe σ own) D H2 z,
        fun H2 ⟨z, k, b⟩ => ⟨x.1.length - (i + 1), by omega, rfl, hlt, z, by rw [← hK2] at k; exact k, b⟩, fun v H2 y => ?_⟩
      obtain ⟨F2, nw, s2, hx⟩ := (wk'.1 x.1[i] (List.getElem?_eq_getElem hlt)).2 v H2 y
      -- the outer turn
      unfold turnC2 at hz
      simp only [wpR_bind, wpR_lift] at hz
      obtain ⟨ρ1, h1, hz⟩ := hz
      have E0 := E'.trans nw.ext
      have A0 := A'.ext nw.ext (W' := Wn z.1 fp')
      have s0 := s'.trans nw.f
      have R0 := R'.new nw s2
      refine asg_go R0 hx h1 fun σ2 R2' hw hs hs' => ?_
      have ew : wipe σ2 own = wipe σ own := by
        have : wipe σ2 own = wipe (wipe σ own) own := wipe_ext (by rw [← R2'.len, ← R0.len]; exact asgT_length h1) fun i hi => hs i fun q => hi (ho i q)
        rw [this, wipe_wipe]
      refine ⟨ew, tT.go (E0.weakW hw) R2' (wpR_mono hz (fun _ z => z.elim) fun _ z => z) fun b g F3 H3 fp3 E3 Er3 R3' => ?_⟩
      have A3 := (A0.weak hw).ext Er3
      have s3 := s0.trans Er3.same
      obtain ⟨b, ρ2⟩ := b
      cases b with
      | false =>
        have g : K2 (wipeE own ρ2, z.2) := g
        obtain ⟨R4, hw4⟩ := R3'.wipe (own := own)
        rw [ew] at R4
        exact ⟨(wipeE own ρ2, z.2), g, ⟨F3, fp3, E3.weakW hw4, R4, A3.weak hw4, s3⟩⟩
      | true =>
        simp only [if_true, wpR_bind] at g ⊢
        refine ⟨F3, ρ2, fp3, R3', wpR_mono g (fun _ z => z.elim) fun x1 g1 F4 H4 fp4 J1 E4r R4 wk1 => ?_⟩
        have E4 := E3.trans E4r
        have A4 := A3.ext E4r
        have s4 := s3.trans E4r.same
        obtain ⟨R5, hw5⟩ := R4.wipe (own := own1)
        generalize hK1 : (fun a : Ev × List VL.D => wpR (fun _ => False) K2 (pure (wipeE own a.1, a.2) : Res (Ev × List VL.D))) = K1 at g1
        refine ⟨fun j k H' => k = x1.1.length - j ∧ j ≤ x1.1.length ∧ ∃ z : Ev × List VL.D, wpR (fun _ => False) K1 (loopC (turnC own1 t1 fc1 fe) (x1.1.drop j) z.1 z.2) ∧ Bt p P.nox F H F4 (Wn ρ fp) (wipe σ2 own1) D H' z,
          ⟨x1.1.length, by simp, Nat.zero_le _, (wipeE own1 x1.2, z.2), g1, ⟨F4, fp4, E4.weakW hw5, R5, A4.weak hw5, Same.refl⟩⟩, ?_⟩
        rintro j k H5 ⟨rfl, hj, z1, hz1, ⟨F5, fp5, E5, R6, A6, s6⟩⟩
        have wk1' := wk1 F5 H5 s6 R6.sub j
        by_cases hlt1 : j < x1.1.length
        · refine .inr ⟨(wk1'.1 x1.1[j] (List.getElem?_eq_getElem hlt1)).1, fun H2 => ∃ z, wpR (fun _ => False) K1 (loopC (turnC own1 t1 fc1 fe) (x1.1.drop (j + 1)) z.1 z.2) ∧ Bt p P.nox F H F4 (Wn ρ fp) (wipe σ2 own1) D H2 z,
            fun H2 z => ⟨x1.1.length - (j + 1), by omega, rfl, hlt1, z⟩, fun v H2 y => ?_⟩
          obtain ⟨F7, nw7, s7, hx7⟩ := (wk1'.1 x1.1[j] (List.getElem?_eq_getElem hlt1)).2 v H2 y
          rw [drop_cons hlt1] at hz1
          unfold loopC at hz1
          rw [wpR_bind] at hz1
          exact turn_go ok ho1 n0 (E5.trans nw7.ext) (R6.new nw7 s7) (A6.ext nw7.ext) (s6.trans nw7.f) hx7 hz1
        · have e : j = x1.1.length := by omega
          refine .inl ⟨wk1'.2 e.symm, ?_⟩
          rw [e, List.drop_length] at hz1
          have hz1 : K1 z1 := hz1
          rw [← hK1] at hz1
          have hz1 : K2 (wipeE own z1.1, z1.2) := hz1
          obtain ⟨R8, hw8⟩ := R6.wipe (own := own)
          have e2 : wipe (wipe σ2 own1) own = wipe σ own := by
            rw [← ew]
            exact wipe_ext (wipe_length _ _) fun i hi => (wipe_get).1 fun q => hi (hoo i q)
          rw [e2] at R8
          exact ⟨(wipeE own z1.1, z1.2), hz1, ⟨F5, fp5, E5.weakW hw8, R8, A6.weak hw8, s4.trans s6⟩⟩
    · have e : i = x.1.length := by omega
      refine .inl ⟨wk'.2 e.symm, ?_⟩
      rw [e, List.drop_length] at hz
      have hz : K z := hz
      rw [← hK] at hz
      obtain ⟨R4, hw4⟩ := R1.back no s' (R'.cast (P' := P) rfl)
      obtain ⟨vs, hv, lv⟩ := A'.ex
      exact hz F' H' fp' (.ref D) (E'.weakW hw4) R4 ⟨[D], .lst hv lv, fun b hb => by
        simp at hb
        subst hb
        exact ⟨A'.f, n0, fun w => A'.w (hw4 _ w)⟩⟩
  · exact g.elim
/-! ### dict comprehensions -/
structure AccK (p : Pm) (D : Addr) (F H : Hp) (W : Addr → Prop) (ds : List (VL.D × VL.D)) : Prop where
  ex : ∃ xs ep, H D = some (dO p.P p.w D xs ep) ∧ AtK p F ds xs
  f : F D = none
  w : ¬ W D
theorem AccK.ext {F H F' H' : Hp} {W W' : Addr → Prop} {D : Addr} {ds : List (VL.D × VL.D)} (A : AccK p D F H W ds) (E : Ext F H W F' H' W') : AccK p D F' H' W' ds := by
  obtain ⟨vs, ep, h1, h2⟩ := A.ex
  refine ⟨⟨vs, ep, E.keep D _ h1 A.w, h2.mono E.same⟩, ?_, fun w => ?_⟩
  · cases z : F' D with
    | none => rfl
    | some o =>
      rcases E.newF D (by rw [z]; simp) with q | q | q
      · exact absurd A.f q
      · rw [h1] at q; cases q
      · exact absurd q A.w
  · rcases E.newW D w with q | q
    · exact A.w q
    · rw [h1] at q; cases q
theorem AccK.weak {F H : Hp} {W W' : Addr → Prop} {D : Addr} {ds : List (VL.D × VL.D)} (A : AccK p D F H W ds) (h : ∀ a, W' a → W a) : AccK p D F H W' ds := ⟨A.ex, A.f, fun w => A.w (h _ w)⟩
structure BtK (p : Pm) (P : Pr) (F0 H0 F1 : Hp) (W0 : Addr → Prop) (σ : L2.St) (D : Addr) (H : Hp) (x : Ev × List (VL.D × VL.D)) : Prop where
  st : ∃ F fp, Ext F0 H0 W0 F H (Wn x.1 fp) ∧ Rep p P F H x.1 σ fp ∧ AccK p D F H (Wn x.1 fp) x.2 ∧ Same F1 F
theorem turn_goK {own : List Nat} {t : MT} {fc : FC} {fk fe : FE} {d : VL.D} {x : V} {ρ : Ev} {acc : List (VL.D × VL.D)} {D : Addr} {F H : Hp} {fp : Nat → List Addr} {K : Ev × List (VL.D × VL.D) → Prop} (ok : POk p) (ho : ∀ i ∈ t.slots, i ∈ own) (n0 : H0 D = none)
    (E : Ext F0 H0 W0 F H (Wn ρ fp)) (R : Rep p P F H ρ (wipe σ own) fp) (A : AccK p D F H (Wn ρ fp) acc) (s1 : Same F1 F) (hx : At p F d x) (h : wpR (fun _ => False) K (turnK own t fc fk fe d ρ acc)) :
    gT p.K t x (wipe σ own) H fun σ2 H2 => wipe σ2 own = wipe σ own ∧ tT p P fc σ2 H2 fun b H3 =>
      if b = true then tE p P fk σ2 H3 fun y H4 => tE p P fe σ2 H4 fun z H5 => ∃ F xs ep kvs b kd k, Same F H5 ∧ y = .ref b ∧ H5 D = some (dO p.P p.w D xs ep) ∧ AtK p F kvs xs ∧ xs.length < sizeLine ∧ At p F kd (.ref b) ∧ keyOf kd = some k ∧ k.depth ≤ 8 ∧ ∀ u ep', RelV z u →
        ∃ z, K z ∧ BtK p P F0 H0 F1 W0 (wipe σ own) D (upd H5 D (dO p.P p.w D (storedH xs k b u) ep')) z else ∃ z, K z ∧ BtK p P F0 H0 F1 W0 (wipe σ own) D H3 z := by
  unfold turnK at h
  simp only [wpR_bind, wpR_lift] at h
  obtain ⟨ρ1, h1, h⟩ := h
  refine asg_go R hx h1 fun σ2 R2 hw hs hs' => ?_
  have ew : wipe σ2 own = wipe σ own := by
    have : wipe σ2 own = wipe (wipe σ own) own := wipe_ext (by rw [← R2.len, ← R.len]; exact asgT_length h1) fun i hi => hs i fun q => hi (ho i q)
    rw [this, wipe_wipe]
  refine ⟨ew, tT.go (E.weakW hw) R2 (wpR_mono h (fun _ z => z.elim) fun _ z => z) fun b g F2 H2 fp2 E2 Er2 R2' => ?_⟩
  have A2 := (A.weak hw).ext Er2
  obtain ⟨b, ρ2⟩ := b
  cases b with
  | false =>
    have g : K (wipeE own ρ2, acc) := g
    obtain ⟨R3, hw3⟩ := R2'.wipe (own := own)
    rw [ew] at R3
    exact ⟨_, g, ⟨F2, fp2, E2.weakW hw3, R3, A2.weak hw3, s1.trans Er2.same⟩⟩
  | true =>
    simp only [if_true, wpR_bind, wpR_lift] at g ⊢
    refine fz_go ok E2 R2' (wpR_mono g (fun _ z => z.elim) fun _ z => z) fun y g F3 H3 fp3 v E3 Er3 R3 A3 => ?_
    refine fz_go ok E3 R3 (wpR_mono g (fun _ z => z.elim) fun _ z => z) fun y2 g F4 H4 fp4 v2 E4 Er4 R4 A4 => ?_
    obtain ⟨key, hk, g⟩ := g
    have A5 := (A2.ext Er3).ext Er4
    obtain ⟨xs, ep, hv, lv⟩ := A5.ex
    obtain ⟨k1, k2, ds, hds⟩ := keyT_some hk
    have A3' := A3.mono Er4.same
    have hb : ∃ b', v = .ref b' := by
      rw [hds] at A3'
      cases A3' with
      | tup h l => exact ⟨_, rfl⟩
    obtain ⟨b', rfl⟩ := hb
    split at g
    · rename_i hl
      have g : K (wipeE own y2.2, dput acc y.1 key y2.1) := g
      refine ⟨F4, xs, ep, acc, b', y.1, key, R4.sub, rfl, hv, lv, ?_, A3', k1, k2, fun u ep' ru => ⟨_, g, ?_⟩⟩
      · rw [← lv.length]
        exact Nat.lt_of_lt_of_le hl lim_line
      · obtain ⟨E5, R5⟩ := R4.free (o := dO p.P p.w D (storedH xs key b' u) ep') E4 n0 A5.f A5.w
        obtain ⟨R6, hw6⟩ := R5.wipe (own := own)
        rw [ew] at R6
        exact ⟨F4, fp4, E5.weakW hw6, R6, ⟨⟨_, ep', upd_same, lv.put k1 k2 A3' ru A4⟩, A5.f, fun w => A5.w (hw6 _ w)⟩, s1.trans (Er2.same.trans (Er3.same.trans Er4.same))⟩
    · exact g.elim
theorem seqDcomp {own : List Nat} {t : MT} {fi : FA} {fc : FC} {fk fe : FE} {H : Hp} {Q : VK} (ok : POk p) (ho : ∀ i ∈ t.slots, i ∈ own) (h : tE p P (fDcomp own t fi fc fk fe) σ H Q) :
    tDcO p (tI p P fi) (gT p.K t) (tT p P.nox fc) (tE p P.nox fk) (tE p P.nox fe) own σ H Q := by
  obtain ⟨F, ρ, fp, R, h⟩ := h
  unfold fDcomp at h
  simp only [wpR_bind] at h
  refine ⟨F, ρ, fp, R, wpR_mono h (fun _ e => e) fun x g F1 H1 fp1 J E1 R1 wk => ?_⟩
  split at g
  · rename_i no
    simp only [wpR_bind, wpR_noEx] at g
    intro D hD
    have n0 : H D = none := E1.back hD
    obtain ⟨E2, R2, nF, nW⟩ := R1.newH (o := dO p.P p.w D [] 0) hD
    obtain ⟨R3, hw3⟩ := (R2.cast (P' := P.nox) rfl).wipe (own := own)
    generalize hK : (fun a : Ev × List (VL.D × VL.D) => wpR (Exc P F H (Wn ρ fp)) (fun x => ∀ F' H' fp' v, Ext F H (Wn ρ fp) F' H' (Wn x.2 fp') → Rep p P F' H' x.2 σ fp' → Val p H F' H' x.2 σ fp' x.1 v → Q v H') (if plainD a.2 = true then pure (.fr (.dict a.2), backE own x.2 a.1) else Res.bad)) = K at g
    refine ⟨fun i m H' => m = x.1.length - i ∧ i ≤ x.1.length ∧ ∃ z : Ev × List (VL.D × VL.D), wpR (fun _ => False) K (loopC (turnK own t fc fk fe) (x.1.drop i) z.1 z.2) ∧ BtK p P.nox F H F1 (Wn ρ fp) (wipe σ own) D H' z,
      ⟨x.1.length, by simp, Nat.zero_le _, (wipeE own x.2, []), g, ⟨F1, fp1, (E1.trans E2).weakW hw3, R3, ⟨⟨[], 0, upd_same, .nil⟩, nF, fun w => nW (hw3 _ w)⟩, Same.refl⟩⟩, ?_⟩
    rintro i m H' ⟨rfl, hi, z, hz, ⟨F', fp', E', R', A', s'⟩⟩
    have wk' := wk F' H' s' R'.sub i
    by_cases hlt : i < x.1.length
    · refine .inr ⟨(wk'.1 x.1[i] (List.getElem?_eq_getElem hlt)).1, fun H2 => ∃ z : Ev × List (VL.D × VL.D), wpR (fun _ => False) K (loopC (turnK own t fc fk fe) (x.1.drop (i + 1)) z.1 z.2) ∧ BtK p P.nox F H F1 (Wn ρ fp) (wipe σ own) D H2 z,
        fun H2 z => ⟨x.1.length - (i + 1), by omega, rfl, hlt, z⟩, fun v H2 y => ?_⟩
      obtain ⟨F2, nw, s2, hx⟩ := (wk'.1 x.1[i] (List.getElem?_eq_getElem hlt)).2 v H2 y
      rw [drop_cons hlt] at hz
      unfold loopC at hz
      rw [wpR_bind] at hz
      exact turn_goK ok ho n0 (E'.trans nw.ext) (R'.new nw s2) (A'.ext nw.ext) (s'.trans nw.f) hx hz
    · have e : i = x.1.length := by omega
      refine .inl ⟨wk'.2 e.symm, ?_⟩
      rw [e, List.drop_length] at hz
      have hz : K z := hz
      rw [← hK] at hz
      split at hz
      · rename_i pl
        obtain ⟨R4, hw4⟩ := R1.back no s' (R'.cast (P' := P) rfl)
        obtain ⟨vs, ep, hv, lv⟩ := A'.ex
        exact hz F' H' fp' (.ref D) (E'.weakW hw4) R4 ⟨[D], .dct hv pl lv, fun b hb => by
          simp at hb
          subst hb
          exact ⟨A'.f, n0, fun w => A'.w (hw4 _ w)⟩⟩
      · exact hz.elim
  · exact g.elim
end
end VL

set_option Elab.async false
set_option linter.all false
set_option maxRecDepth 100000
/-! V20: statements. -/
namespace VL
open PySem PySem.Spec PySem.W PyProof.Rows L2 StX

def EndsIn (p : Pm) (P : Pr) (D : Ends) (F0 H0 : Hp) (W0 : Addr → Prop) : Out → Prop
  | .nx ρ' => ∀ F' H' fp' σ', Ext F0 H0 W0 F' H' (Wn ρ' fp') → Rep p P F' H' ρ' σ' fp' → D.nx σ' H'
  | .bk ρ' => ∀ F' H' fp' σ', Ext F0 H0 W0 F' H' (Wn ρ' fp') → Rep p P F' H' ρ' σ' fp' → D.bk σ' H'
  | .ct ρ' => ∀ F' H' fp' σ', Ext F0 H0 W0 F' H' (Wn ρ' fp') → Rep p P F' H' ρ' σ' fp' → D.ct σ' H'
  | .rt r ρ' => ∀ F' H' fp' σ' v, Ext F0 H0 W0 F' H' (Wn ρ' fp') → Rep p P F' H' ρ' σ' fp' → Val p H0 F' H' ρ' σ' fp' r v → D.rt v H'
def tS (p : Pm) (P : Pr) (f : FS) : TS := fun D σ H => ∃ F ρ fp, Rep p P F H ρ σ fp ∧ wpR (Exc P F H (Wn ρ fp)) (EndsIn p P D F H (Wn ρ fp)) (f ρ)
section
variable {p : Pm} {P : Pr} {F0 H0 F H F1 H1 : Hp} {W0 W1 : Addr → Prop} {ρ : Ev} {σ : L2.St} {fp : Nat → List Addr} {D : Ends}
theorem EndsIn.ext {o : Out} (h : EndsIn p P D F0 H0 W0 o) (E : Ext F0 H0 W0 F1 H1 W1) : EndsIn p P D F1 H1 W1 o := by
  cases o with
  | nx ρ' => exact fun F' H' fp' σ' E' R => h F' H' fp' σ' (E.trans E') R
  | bk ρ' => exact fun F' H' fp' σ' E' R => h F' H' fp' σ' (E.trans E') R
  | ct ρ' => exact fun F' H' fp' σ' E' R => h F' H' fp' σ' (E.trans E') R
  | rt r ρ' => exact fun F' H' fp' σ' v E' R V => h F' H' fp' σ' v (E.trans E') R (V.back E.there)
theorem tS.go {f : FS} (E : Ext F0 H0 W0 F H (Wn ρ fp)) (R : Rep p P F H ρ σ fp) (h : wpR (Exc P F0 H0 W0) (EndsIn p P D F0 H0 W0) (f ρ)) : tS p P f D σ H :=
  ⟨F, ρ, fp, R, wpR_mono h (fun _ e => e.ext E) fun o g => g.ext E⟩
theorem seqNext (h : tS p P sNext D σ H) : tNext D σ H := by
  obtain ⟨F, ρ, fp, R, h⟩ := h
  exact h F H fp σ Ext.refl R
theorem seqBrk (h : tS p P sBrk D σ H) : tBreak D σ H := by
  obtain ⟨F, ρ, fp, R, h⟩ := h
  exact h F H fp σ Ext.refl R
theorem seqCnt (h : tS p P sCnt D σ H) : tCont D σ H := by
  obtain ⟨F, ρ, fp, R, h⟩ := h
  exact h F H fp σ Ext.refl R
theorem seqSeq {f g : FS} (h : tS p P (sSeq f g) D σ H) : tSeq (tS p P f) (tS p P g) D σ H := by
  obtain ⟨F, ρ, fp, R, h⟩ := h
  unfold sSeq at h
  rw [wpR_bind] at h
  refine ⟨F, ρ, fp, R, wpR_mono h (fun _ e => e) fun o k => ?_⟩
  cases o with
  | nx ρ' => exact fun F' H' fp' σ' E' R' => tS.go E' R' k
  | bk ρ' => exact k
  | ct ρ' => exact k
  | rt r ρ' => exact k
theorem seqRet {fa : FE} (h : tS p P (sRet fa) D σ H) : tRet (tE p P fa) D σ H := by
  obtain ⟨F, ρ, fp, R, h⟩ := h
  unfold sRet at h
  simp only [wpR_bind, wpR_pure] at h
  exact tE.go Ext.refl R h fun x k F1 H1 fp1 v E1 _ R1 V1 => k F1 H1 fp1 σ v E1 R1 V1
theorem seqRetN (h : tS p P (sRet (fC .none)) D σ H) : tRetN D σ H := by
  obtain ⟨F, ρ, fp, R, h⟩ := h
  exact h F H fp σ .non Ext.refl R .non
theorem seqExpr {fa : FE} (h : tS p P (sExpr fa) D σ H) : tDrop (tE p P fa) D σ H := by
  obtain ⟨F, ρ, fp, R, h⟩ := h
  unfold sExpr at h
  simp only [wpR_bind, wpR_pure] at h
  exact tE.go Ext.refl R h fun x k F1 H1 fp1 v E1 _ R1 V1 => k F1 H1 fp1 σ E1 R1
theorem seqIf {fc : FC} {fa fb : FS} (h : tS p P (sIf fc fa fb) D σ H) : tIfS (tT p P fc) (tS p P fa) (tS p P fb) D σ H := by
  obtain ⟨F, ρ, fp, R, h⟩ := h
  unfold sIf at h
  rw [wpR_bind] at h
  refine tT.go Ext.refl R h fun x g F1 H1 fp1 E1 _ R1 => ?_
  obtain ⟨b, ρ1⟩ := x
  cases b with
  | true => exact tS.go E1 R1 g
  | false => exact tS.go E1 R1 g
/-! ### stores -/
/-- the slots a value may be kept in as an owned one: not a parameter's -/
def Free (P : Pr) (i : Nat) : Prop := ∀ q ∈ P.prm, q.1 ≠ i
theorem Rep.setOw {i : Nat} {d : VL.D} {v : V} {q : List Addr} (R : Rep p P F H ρ σ fp) (o : Own p F H d v q) (hq : ∀ a ∈ q, F a = none ∧ ¬ Wn ρ fp a) (hf : Free P i) (hi : i < ρ.length) :
    Rep p P F H (ρ.set i (.ow d)) (σ.set i (some v)) (fun j => if j = i then q else fp j) ∧ ∀ a, Wn (ρ.set i (.ow d)) (fun j => if j = i then q else fp j) a → Wn ρ fp a ∨ a ∈ q := by
  refine ⟨⟨R.sub, by rw [List.length_set, List.length_set]; exact R.len, fun j e h => ?_, fun j e h => ?_, fun j k e e' hjk h1 h2 => ?_, fun x hx e h => ?_⟩, fun a ⟨j, e, h, ha⟩ => ?_⟩
  · rcases set_get h with ⟨_, z⟩ | ⟨z, h⟩
    · cases z
    · rw [List.getElem?_set_ne (fun q => z q.symm)]
      exact R.sh j e h
  · rcases set_get h with ⟨rfl, z⟩ | ⟨z, h⟩
    · cases z
      refine ⟨v, by rw [List.getElem?_set_self (by rw [← R.len]; exact hi)], ?_, fun a ha => ?_⟩
      · rw [if_pos rfl]; exact o
      · rw [if_pos rfl] at ha; exact (hq a ha).1
    · rw [List.getElem?_set_ne (fun q => z q.symm), if_neg z]
      exact R.ow j e h
  · by_cases zj : j = i
    · by_cases zk : k = i
      · exact absurd (zj.trans zk.symm) hjk
      · have h2' : ρ[k]? = some (.ow e') := by rw [List.getElem?_set_ne (fun q => zk q.symm)] at h2; exact h2
        rw [if_pos zj, if_neg zk]
        exact fun a ha hk => (hq a ha).2 ⟨k, e', h2', hk⟩
    · have h1' : ρ[j]? = some (.ow e) := by rw [List.getElem?_set_ne (fun q => zj q.symm)] at h1; exact h1
      by_cases zk : k = i
      · rw [if_neg zj, if_pos zk]
        exact fun a ha hk => (hq a hk).2 ⟨j, e, h1', ha⟩
      · have h2' : ρ[k]? = some (.ow e') := by rw [List.getElem?_set_ne (fun q => zk q.symm)] at h2; exact h2
        rw [if_neg zj, if_neg zk]
        exact R.dj j k e e' hjk h1' h2'
  · have z : x.1 ≠ i := hf x hx
    rcases set_get h with ⟨z', _⟩ | ⟨_, h⟩
    · exact absurd z' z
    · rw [List.getElem?_set_ne (fun q => z q.symm), if_neg z]
      exact R.prm x hx e h
  · simp only at ha
    rcases set_get h with ⟨z', z⟩ | ⟨z, h'⟩
    · rw [if_pos z'] at ha
      exact .inr ha
    · rw [if_neg z] at ha
      exact .inl ⟨j, e, h', ha⟩
/-- a value to be kept -/
def Kept (p : Pm) (H0 F H : Hp) (W : Addr → Prop) : SV → V → List Addr → Prop
  | .sh d, v, q => At p F d v ∧ q = []
  | .ow d, v, q => Own p F H d v q ∧ ∀ a ∈ q, F a = none ∧ H0 a = none ∧ ¬ W a
  | .un, _, _ => False
theorem keepR_ok {own : Bool} {r : Rv} {v : V} {Hs : Hp} {w : SV} {ρ' : Ev} (ok : POk p) (R : Rep p P F H ρ σ fp) (x : Val p Hs F H ρ σ fp r v) (e : keepR own r ρ = some (w, ρ')) :
    ∃ F' q, (∀ {F0 H0 : Hp} {W0 : Addr → Prop}, (∀ a, H0 a ≠ none → Hs a ≠ none) → Ext F0 H0 W0 F H (Wn ρ fp) → Ext F0 H0 W0 F' H (Wn ρ' fp)) ∧ Rep p P F' H ρ' σ fp ∧ Kept p Hs F' H (Wn ρ' fp) w v q ∧ Same F F' ∧ (own = false → ∀ d, w ≠ .ow d) := by
  cases own with
  | false =>
    simp only [keepR] at e
    cases e1 : r.fz ρ with
    | none => rw [e1] at e; cases e
    | some y =>
      obtain ⟨d, ρ1⟩ := y
      rw [e1] at e
      cases e
      obtain ⟨F', m, R', A', s⟩ := fz_ok ok R x e1
      exact ⟨F', [], m, R', ⟨A', rfl⟩, s, fun _ d z => by cases z⟩
  | true =>
    cases r with
    | fr d =>
      simp [keepR] at e
      obtain ⟨rfl, rfl⟩ := e
      obtain ⟨q, o, hq⟩ := x
      exact ⟨F, q, fun _ E => E, R, ⟨o, hq⟩, Same.refl, fun z => by cases z⟩
    | sh d => simp [keepR] at e
    | ow i => simp [keepR] at e
theorem Rep.keep {i : Nat} {w : SV} {v : V} {q : List Addr} (E : Ext F0 H0 W0 F H (Wn ρ fp)) (R : Rep p P F H ρ σ fp) (k : Kept p H0 F H (Wn ρ fp) w v q) (hf : (∃ d, w = .ow d) → Free P i) (hi : i < ρ.length) :
    ∃ fp', Ext F0 H0 W0 F H (Wn (ρ.set i w) fp') ∧ Rep p P F H (ρ.set i w) (σ.set i (some v)) fp' ∧ ∀ a, Wn (ρ.set i w) fp' a → Wn ρ fp a ∨ a ∈ q := by
  cases w with
  | un => exact k.elim
  | sh d =>
    obtain ⟨R1, h1⟩ := R.setS (i := i) (w := .sh d) (v := some v) k.1
    exact ⟨fp, E.weakW h1, R1, fun a w => .inl (h1 a w)⟩
  | ow d =>
    obtain ⟨o, hq⟩ := k
    obtain ⟨R1, h1⟩ := R.setOw o (fun a ha => ⟨(hq a ha).1, (hq a ha).2.2⟩) (hf ⟨d, rfl⟩) hi
    refine ⟨_, ⟨E.same, E.keep, E.there, E.newF, fun a w => ?_⟩, R1, h1⟩
    rcases h1 a w with w | w
    · exact E.newW a w
    · exact .inr (hq a w).2.1
theorem seqSet {i : Nat} {own : Bool} {fa : FE} (ok : POk p) (hf : own = true → Free P i) (h : tS p P (sSet i own fa) D σ H) : tAsg (tE p P fa) (gName i) D σ H := by
  obtain ⟨F, ρ, fp, R, h⟩ := h
  unfold sSet at h
  simp only [wpR_bind, wpR_lift] at h
  refine tE.go Ext.refl R h fun x g F1 H1 fp1 v E1 _ R1 V1 => ?_
  obtain ⟨y, hy, g⟩ := g
  obtain ⟨w, ρ1⟩ := y
  obtain ⟨F2, q, m, R2, k, s, hw⟩ := keepR_ok ok R1 V1 hy
  split at g
  · rename_i hi
    obtain ⟨fp2, E3, R3, _⟩ := R2.keep (i := i) (m (fun _ h => h) E1) k (fun ⟨d, e⟩ => hf (by
      cases own with
      | true => rfl
      | false => exact absurd e (hw rfl d))) hi
    exact g F2 H1 fp2 _ E3 R3
  · exact g.elim
end
end VL

set_option Elab.async false
set_option linter.all false
set_option maxRecDepth 100000
/-! V21: more statements. -/
namespace VL
open PySem PySem.Spec PySem.W PyProof.Rows L2 StX

section
variable {p : Pm} {P : Pr} {F0 H0 F H F' H' F1 H1 : Hp} {W0 W W' : Addr → Prop} {ρ ρ' : Ev} {σ : L2.St} {fp : Nat → List Addr} {D : Ends}
theorem Kept.ext {w : SV} {v : V} {q : List Addr} (k : Kept p H0 F H W w v q) (E : Ext F H W F' H' W') : Kept p H0 F' H' W' w v q := by
  cases w with
  | un => exact k
  | sh d => exact ⟨k.1.mono E.same, k.2⟩
  | ow d =>
    obtain ⟨o, hq⟩ := k
    refine ⟨o.keep E.same fun a ha => ?_, fun a ha => ⟨?_, (hq a ha).2.1, fun w => ?_⟩⟩
    · obtain ⟨u, hu⟩ := o.there a ha
      rw [hu]
      exact E.keep a u hu (hq a ha).2.2
    · obtain ⟨u, hu⟩ := o.there a ha
      cases z : F' a with
      | none => rfl
      | some y =>
        rcases E.newF a (by rw [z]; simp) with z | z | z
        · exact absurd (hq a ha).1 z
        · rw [hu] at z; cases z
        · exact absurd z (hq a ha).2.2
    · obtain ⟨u, hu⟩ := o.there a ha
      rcases E.newW a w with z | z
      · exact (hq a ha).2.2 z
      · rw [hu] at z; cases z
theorem Kept.back {w : SV} {v : V} {q : List Addr} {Hs : Hp} (k : Kept p Hs F H W w v q) (h : ∀ a, H0 a ≠ none → Hs a ≠ none) : Kept p H0 F H W w v q := by
  cases w with
  | un => exact k
  | sh d => exact k
  | ow d => exact ⟨k.1, fun a ha => ⟨(k.2 a ha).1, Classical.byContradiction fun z => h a z (k.2 a ha).2.1, (k.2 a ha).2.2⟩⟩
theorem Kept.fresh {w : SV} {v : V} {q : List Addr} (k : Kept p H0 F H W w v q) : ∀ a ∈ q, H0 a = none ∧ ∃ u, H a = some u := by
  cases w with
  | un => exact k.elim
  | sh d => rw [k.2]; intro a ha; cases ha
  | ow d => exact fun a ha => ⟨(k.2 a ha).2.1, k.1.there a ha⟩
inductive SVs (p : Pm) (H0 F H : Hp) (W : Addr → Prop) : List SV → List V → List Addr → Prop
  | nil : SVs p H0 F H W [] [] []
  | cons {w : SV} {v : V} {q S : List Addr} {ws : List SV} {vs : List V} : Kept p H0 F H W w v q → (∀ a ∈ q, a ∉ S) → SVs p H0 F H W ws vs S → SVs p H0 F H W (w :: ws) (v :: vs) (q ++ S)
theorem SVs.back {Hs : Hp} (h : ∀ a, H0 a ≠ none → Hs a ≠ none) : ∀ {ws : List SV} {vs : List V} {S : List Addr}, SVs p Hs F H W ws vs S → SVs p H0 F H W ws vs S
  | _, _, _, .nil => .nil
  | _, _, _, .cons k d t => .cons (k.back h) d (SVs.back h t)
theorem SVs.fresh : ∀ {ws : List SV} {vs : List V} {S : List Addr}, SVs p H0 F H W ws vs S → ∀ a ∈ S, H0 a = none
  | _, _, _, .nil, a, ha => by cases ha
  | _, _, _, .cons k d t, a, ha => by
    rcases List.mem_append.mp ha with ha | ha
    · exact (k.fresh a ha).1
    · exact SVs.fresh t a ha
def tP (p : Pm) (P : Pr) (f : Ev → Res (List SV × Ev)) : TA := fun σ H Q => ∃ F ρ fp, Rep p P F H ρ σ fp ∧ wpR (Exc P F H (Wn ρ fp)) (fun x =>
  ∀ F' H' fp' vs S, Ext F H (Wn ρ fp) F' H' (Wn x.2 fp') → Rep p P F' H' x.2 σ fp' → SVs p H F' H' (Wn x.2 fp') x.1 vs S → Q vs H') (f ρ)
theorem tP.go {f : Ev → Res (List SV × Ev)} {G : List SV × Ev → Prop} {Q : List V → Hp → Prop} (E : Ext F0 H0 W0 F H (Wn ρ fp)) (R : Rep p P F H ρ σ fp) (h : wpR (Exc P F0 H0 W0) G (f ρ))
    (k : ∀ x, G x → ∀ F' H' fp' vs S, Ext F0 H0 W0 F' H' (Wn x.2 fp') → Ext F H (Wn ρ fp) F' H' (Wn x.2 fp') → Rep p P F' H' x.2 σ fp' → SVs p H F' H' (Wn x.2 fp') x.1 vs S → Q vs H') : tP p P f σ H Q :=
  ⟨F, ρ, fp, R, wpR_mono h (fun _ e => e.ext E) fun x g F' H' fp' v S E' R' x' => k x g F' H' fp' v S (E.trans E') E' R' x'⟩
theorem seqPNil {Q : List V → Hp → Prop} (h : tP p P pNil σ H Q) : tNil σ H Q := by
  obtain ⟨F, ρ, fp, R, h⟩ := h
  exact h F H fp _ _ Ext.refl R .nil
theorem seqPCons (ok : POk p) {own : Bool} {fa : FE} {fr : Ev → Res (List SV × Ev)} {Q : List V → Hp → Prop} (h : tP p P (pCons own fa fr) σ H Q) : tCons (tE p P fa) (tP p P fr) σ H Q := by
  obtain ⟨F, ρ, fp, R, h⟩ := h
  unfold pCons at h
  simp only [wpR_bind, wpR_pure, wpR_lift] at h
  refine tE.go Ext.refl R h fun x g F1 H1 fp1 v E1 _ R1 V1 => ?_
  obtain ⟨y, hy, g⟩ := g
  obtain ⟨w, ρ1⟩ := y
  obtain ⟨F2, q, m, R2, k, s, hw⟩ := keepR_ok ok R1 V1 hy
  have E2 := m (fun _ h => h) E1
  refine tP.go E2 R2 g fun z g3 F3 H3 fp3 vs S E3 Er R3 sv => ?_
  refine g3 F3 H3 fp3 (v :: vs) (q ++ S) E3 R3 (.cons (k.ext Er) (fun a ha hs => ?_) (sv.back E2.there))
  obtain ⟨u, hu⟩ := (k.fresh a ha).2
  rw [sv.fresh a hs] at hu
  cases hu
def setsSt : List Nat → List V → L2.St → L2.St
  | i :: is, v :: vs, σ => setsSt is vs (σ.set i (some v))
  | _, _, σ => σ
theorem setsV_go : ∀ {is : List Nat} {ws : List SV} {vs : List V} {S : List Addr} {ρ ρ' : Ev} {σ : L2.St} {fp : Nat → List Addr}, SVs p H0 F H (Wn ρ fp) ws vs S → setsV is ws ρ = some ρ' → (∀ i ∈ is, Free P i) → Ext F0 H0 W0 F H (Wn ρ fp) → Rep p P F H ρ σ fp →
    ∃ fp', Ext F0 H0 W0 F H (Wn ρ' fp') ∧ Rep p P F H ρ' (setsSt is vs σ) fp' ∧ vs.length = is.length
  | [], [], _, _, ρ, ρ', σ, fp, .nil, e, _, E, R => by
    simp [setsV] at e
    subst e
    exact ⟨fp, E, R, rfl⟩
  | i :: is, w :: ws, v :: vs, _, ρ, ρ', σ, fp, .cons (q := q) (S := S) k d t, e, hf, E, R => by
    rw [setsV] at e
    split at e
    · rename_i hi
      obtain ⟨fp1, E1, R1, hw⟩ := R.keep E k (fun _ => hf i List.mem_cons_self) hi
      have t' : SVs p H0 F H (Wn (ρ.set i w) fp1) ws vs S := by
        have key : ∀ {ws : List SV} {vs : List V} {T : List Addr}, (∀ a ∈ T, a ∈ S) → SVs p H0 F H (Wn ρ fp) ws vs T → SVs p H0 F H (Wn (ρ.set i w) fp1) ws vs T := by
          intro ws vs T hT t
          induction t with
          | nil => exact .nil
          | @cons w' v' q' S' ws' vs' k' d' t' ih =>
            refine .cons ?_ d' (ih fun a ha => hT a (List.mem_append_right _ ha))
            cases w' with
            | un => exact k'
            | sh x => exact k'
            | ow x => exact ⟨k'.1, fun a ha => ⟨(k'.2 a ha).1, (k'.2 a ha).2.1, fun z => by
                rcases hw a z with z | z
                · exact (k'.2 a ha).2.2 z
                · exact d a z (hT a (List.mem_append_left _ ha))⟩⟩
        exact key (fun _ h => h) t
      obtain ⟨fp2, E2, R2, hl⟩ := setsV_go (is := is) t' e (fun j hj => hf j (List.mem_cons_of_mem _ hj)) E1 R1
      exact ⟨fp2, E2, R2, by simp [hl]⟩
    · cases e
  | [], _ :: _, _, _, _, _, _, _, _, e, _, _, _ => by simp [setsV] at e
  | _ :: _, [], _, _, _, _, _, _, _, e, _, _, _ => by simp [setsV] at e
theorem seqPar {is : List Nat} {f : Ev → Res (List SV × Ev)} (hf : ∀ i ∈ is, Free P i) (h : tS p P (sPar is f) D σ H) : tP p P f σ H fun vs H1 => vs.length = is.length ∧ D.nx (setsSt is vs σ) H1 := by
  obtain ⟨F, ρ, fp, R, h⟩ := h
  unfold sPar at h
  simp only [wpR_bind, wpR_lift, wpR_pure] at h
  refine tP.go Ext.refl R h fun x ⟨ρ', e, g⟩ F1 H1 fp1 vs S E1 _ R1 sv => ?_
  obtain ⟨fp2, E2, R2, hl⟩ := setsV_go sv e hf E1 R1
  exact ⟨hl, g F1 H1 fp2 _ E2 R2⟩
theorem seqPar2 {i j : Nat} {f : Ev → Res (List SV × Ev)} (hf : ∀ k ∈ [i, j], Free P k) (h : tS p P (sPar [i, j] f) D σ H) : tPar i j (tP p P f) D σ H := by
  obtain ⟨F, ρ, fp, R, h⟩ := seqPar hf h
  refine ⟨F, ρ, fp, R, wpR_mono h (fun _ e => e) fun x k F' H' fp' vs S E' R' sv => ?_⟩
  obtain ⟨hl, k⟩ := k F' H' fp' vs S E' R' sv
  match vs, hl, k with
  | [v, w], _, k => exact ⟨v, w, rfl, k⟩
theorem seqPar3 {i j l : Nat} {f : Ev → Res (List SV × Ev)} (hf : ∀ k ∈ [i, j, l], Free P k) (h : tS p P (sPar [i, j, l] f) D σ H) : tPar3 i j l (tP p P f) D σ H := by
  obtain ⟨F, ρ, fp, R, h⟩ := seqPar hf h
  refine ⟨F, ρ, fp, R, wpR_mono h (fun _ e => e) fun x k F' H' fp' vs S E' R' sv => ?_⟩
  obtain ⟨hl, k⟩ := k F' H' fp' vs S E' R' sv
  match vs, hl, k with
  | [u, v, w], _, k => exact ⟨u, v, w, rfl, k⟩
theorem seqUnp {is : List Nat} {fa : FE} (ok : POk p) (h : tS p P (sUnp is fa) D σ H) : tAsg (tE p P fa) (gT p.K (.tp is)) D σ H := by
  obtain ⟨F, ρ, fp, R, h⟩ := h
  unfold sUnp at h
  simp only [wpR_bind, wpR_lift, wpR_pure] at h
  refine fz_go ok Ext.refl R h fun x ⟨ρ', e, g⟩ F1 H1 fp1 v E1 _ R1 A1 => ?_
  exact asg_go R1 A1 e fun σ' R' hw _ _ => g F1 H1 fp1 σ' (E1.weakW hw) R'
def rAug (op : MOp) : TIp := fun x y H Q => ∃ i j, x = .int i ∧ y = .int j ∧ ∃ r, augR op (.int i) (.int j) = some (.sh (.int r)) ∧ Q (.int r) H
theorem seqAug {op : MOp} {i : Nat} {fa : FE} (ok : POk p) (h : tS p P (sAug op i fa) D σ H) : tAug i (tE p P fa) (rAug op) D σ H := by
  obtain ⟨F, ρ, fp, R, h⟩ := h
  unfold sAug at h
  split at h
  · rename_i d hi
    obtain ⟨x, hx, ax⟩ := R.sh _ _ hi
    simp only [wpR_bind, wpR_lift] at h
    refine ⟨x, hx, tE.go Ext.refl R h fun y g F1 H1 fp1 v E1 _ R1 V1 => ?_⟩
    obtain ⟨a, h3, y', h4, r, h5, k⟩ := g
    obtain ⟨F1', m1, R1', S1, _⟩ := op_ok ok R1 V1 h3
    have ay := get_ok R1' S1 h4
    have key : ∃ m n z, d = .int m ∧ y' = .int n ∧ r = .sh (.int z) := by
      unfold augR at h5
      split at h5
      · cases h5; exact ⟨_, _, _, rfl, rfl, rfl⟩
      · cases h5; exact ⟨_, _, _, rfl, rfl, rfl⟩
      · cases h5
    obtain ⟨m, n, z, rfl, rfl, rfl⟩ := key
    cases ax
    rw [ay.int]
    refine ⟨m, n, rfl, rfl, z, h5, ?_⟩
    obtain ⟨R2, hw⟩ := R1'.setS (i := i) (w := .sh (.int z)) (v := some (.int z)) (.int z)
    exact k F1' H1 fp1 _ ((m1 (fun _ h => h) E1).weakW hw) R2
  · exact h.elim
/-! ### loops -/
theorem seqFor {t : MT} {fi : FA} {fb : FS} (h : tS p P (sFor t fi fb) D σ H) : tFor (tI p P fi) (gT p.K t) (tS p P fb) D σ H := by
  obtain ⟨F, ρ, fp, R, h⟩ := h
  unfold sFor at h
  rw [wpR_bind] at h
  refine ⟨F, ρ, fp, R, wpR_mono h (fun _ e => e) fun x g F1 H1 fp1 J E1 R1 wk => ?_⟩
  refine ⟨fun i m σ' H' => m = x.1.length - i ∧ i ≤ x.1.length ∧ ∃ F' ρ' fp', Ext F H (Wn ρ fp) F' H' (Wn ρ' fp') ∧ Rep p P F' H' ρ' σ' fp' ∧ Same F1 F' ∧ wpR (Exc P F H (Wn ρ fp)) (EndsIn p P D F H (Wn ρ fp)) (loopF (turnF t fb) (x.1.drop i) ρ'),
    ⟨x.1.length, by simp, Nat.zero_le _, F1, x.2, fp1, E1, R1, Same.refl, g⟩, ?_⟩
  rintro i m σ' H' ⟨rfl, hi, F', ρ', fp', E', R', s', hz⟩
  have wk' := wk F' H' s' R'.sub i
  by_cases hlt : i < x.1.length
  · refine .inr ⟨(wk'.1 x.1[i] (List.getElem?_eq_getElem hlt)).1, fun σ2 H2 => ∃ F' ρ' fp', Ext F H (Wn ρ fp) F' H2 (Wn ρ' fp') ∧ Rep p P F' H2 ρ' σ2 fp' ∧ Same F1 F' ∧ wpR (Exc P F H (Wn ρ fp)) (EndsIn p P D F H (Wn ρ fp)) (loopF (turnF t fb) (x.1.drop (i + 1)) ρ'),
      fun σ2 H2 z => ⟨x.1.length - (i + 1), by omega, rfl, hlt, z⟩, fun v H2 y => ?_⟩
    obtain ⟨F2, nw, s2, hx⟩ := (wk'.1 x.1[i] (List.getElem?_eq_getElem hlt)).2 v H2 y
    rw [drop_cons hlt] at hz
    unfold loopF turnF at hz
    simp only [wpR_bind, wpR_lift] at hz
    obtain ⟨ρ1, h1, hz⟩ := hz
    have E2 := E'.trans nw.ext
    refine asg_go (R'.new nw s2) hx h1 fun σ3 R3 hw _ _ => ?_
    have E3 := E2.weakW hw
    refine ⟨F2, ρ1, fp', R3, wpR_mono hz (fun _ e => e.ext E3) fun o k => ?_⟩
    cases o with
    | nx ρ2 => exact fun F4 H4 fp4 σ4 E4 R4 => ⟨F4, ρ2, fp4, E3.trans E4, R4, s'.trans (nw.f.trans E4.same), k⟩
    | ct ρ2 => exact fun F4 H4 fp4 σ4 E4 R4 => ⟨F4, ρ2, fp4, E3.trans E4, R4, s'.trans (nw.f.trans E4.same), k⟩
    | bk ρ2 => exact fun F4 H4 fp4 σ4 E4 R4 => k F4 H4 fp4 σ4 (E3.trans E4) R4
    | rt r ρ2 => exact fun F4 H4 fp4 σ4 w E4 R4 V4 => k F4 H4 fp4 σ4 w (E3.trans E4) R4 (V4.back E3.there)
  · have e : i = x.1.length := by omega
    rw [e, List.drop_length] at hz
    exact .inl ⟨wk'.2 e.symm, hz F' H' fp' σ' E' R'⟩
theorem seqWhl {fc : FC} {fb : FS} (h : tS p P (sWhl fc fb) D σ H) : tWhile (tT p P fc) (tS p P fb) D σ H := by
  obtain ⟨F, ρ, fp, R, h⟩ := h
  refine ⟨fun m σ' H' => ∃ F' ρ' fp', Ext F H (Wn ρ fp) F' H' (Wn ρ' fp') ∧ Rep p P F' H' ρ' σ' fp' ∧ wpR (Exc P F H (Wn ρ fp)) (EndsIn p P D F H (Wn ρ fp)) (loopW fc fb m ρ'), ⟨fuel, F, ρ, fp, Ext.refl, R, h⟩, ?_⟩
  rintro m σ' H' ⟨F', ρ', fp', E', R', hz⟩
  cases m with
  | zero => exact hz.elim
  | succ m =>
    unfold loopW at hz
    rw [wpR_bind] at hz
    refine tT.go E' R' hz fun b g F2 H2 fp2 E2 _ R2 => ?_
    obtain ⟨b, ρ1⟩ := b
    cases b with
    | false => exact g F2 H2 fp2 σ' E2 R2
    | true =>
      simp only [if_true, wpR_bind] at g ⊢
      refine ⟨fun σ3 H3 => ∃ F' ρ' fp', Ext F H (Wn ρ fp) F' H3 (Wn ρ' fp') ∧ Rep p P F' H3 ρ' σ3 fp' ∧ wpR (Exc P F H (Wn ρ fp)) (EndsIn p P D F H (Wn ρ fp)) (loopW fc fb m ρ'), fun σ3 H3 z => ⟨m, Nat.lt_succ_self _, z⟩, F2, ρ1, fp2, R2, wpR_mono g (fun _ e => e.ext E2) fun o k => ?_⟩
      cases o with
      | nx ρ2 => exact fun F4 H4 fp4 σ4 E4 R4 => ⟨F4, ρ2, fp4, E2.trans E4, R4, k⟩
      | ct ρ2 => exact fun F4 H4 fp4 σ4 E4 R4 => ⟨F4, ρ2, fp4, E2.trans E4, R4, k⟩
      | bk ρ2 => exact fun F4 H4 fp4 σ4 E4 R4 => k F4 H4 fp4 σ4 (E2.trans E4) R4
      | rt r ρ2 => exact fun F4 H4 fp4 σ4 w E4 R4 V4 => k F4 H4 fp4 σ4 w (E2.trans E4) R4 (V4.back E2.there)
end
end VL

set_option Elab.async false
set_option linter.all false
set_option maxRecDepth 100000
/-! V22: statements that change an owned object. -/
namespace VL
open PySem PySem.Spec PySem.W PyProof.Rows L2 StX

section
variable {X : Cx} {cls : Nat → Option (Addr × List Str)} {P : Pr} {a b e o value : Expr} {fa fb fk fv : FE} {pos pos' p2 apos cpos p0 p1 tpos : Pos} {D : Ends} {σ : L2.St} {H : Hp}
theorem slotOw_some {i : Nat} {ρ : Ev} {d : VL.D} (h : slotOw i ρ = some d) : ρ[i]? = some (.ow d) := by
  unfold slotOw at h
  split at h
  · rename_i d' e
    cases h
    exact e
  · cases h
/-- what append and extend read -/
def rMutL (g : List V → V → Hp → List V → Prop) : V → List V → Hp → VK → Prop := fun x vs H Q => ∃ y, vs = [y] ∧ ∃ l xs y' zs, x = .ref l ∧ y = y' ∧ H l = some (.lst xs) ∧ g xs y' H zs ∧ Q .non (upd H l (.lst zs))
theorem seqApp {p : Pm} {i : Nat} {g : VL.D → VL.D → Option VL.D} {G : List V → V → Hp → List V → Prop} (ok : POk p) (hl : ∀ d x d', g d x = some d' → ∃ ds, d = .list ds) (hg : ∀ F H d x d' y vs, Same F H → At p F x y → AtL p F d vs → g (.list d) x = some d' → ∃ ds zs, d' = .list ds ∧ G vs y H zs ∧ AtL p F ds zs) (h : tS p P (sApp i fa g) D σ H) :
    tDrop (tMG (fun x H => ∃ a vs, x = .ref a ∧ H a = some (.lst vs)) (rMutL G) (tVar i) (tCons (tE p P fa) tNil)) D σ H := by
  obtain ⟨F, ρ, fp, R, h⟩ := h
  unfold sApp at h
  split at h
  · rename_i hs
    obtain ⟨ds0, e0⟩ := slotLst_some hs
    obtain ⟨v, h1, h2, h3⟩ := R.ow _ _ e0
    obtain ⟨a, vs, rfl, _, ha, _⟩ := h2.lstI
    refine ⟨_, h1, ⟨a, vs, rfl, ha⟩, ?_⟩
    simp only [wpR_bind, wpR_lift, wpR_pure] at h
    refine fz_go ok Ext.refl R h fun x g0 F1 H1 fp1 w E1 _ R1 A1 => ?_
    obtain ⟨d, hd, d', hd', k⟩ := g0
    have e1 := slotOw_some hd
    obtain ⟨v', g1, g2, g3⟩ := R1.ow _ _ e1
    rw [h1] at g1
    cases g1
    obtain ⟨ds, rfl⟩ := hl _ _ _ hd'
    obtain ⟨a', vs', e3, e4, ha', la⟩ := g2.lstI
    cases e3
    obtain ⟨ds', zs, rfl, hG, lz⟩ := hg F1 H1 ds x.1 d' w vs' R1.sub A1 la hd'
    obtain ⟨E2, R2⟩ := R1.write (d' := .list ds') (x := a) (o := .lst zs) e1 (by rw [e4]; simp) fun v hv => by
      rw [h1] at hv
      cases hv
      rw [e4]
      exact .lst upd_same lz
    exact ⟨_, rfl, a, vs', w, zs, rfl, rfl, ha', hG, k F1 _ fp1 σ (E1.trans E2) R2⟩
  · exact h.elim
theorem s_app {i : Nat} {x : Str} (ok : POk (pmOf X cls)) (hN : X.N[i]? = some x) (hv : Vis X.env.scope x) (hd : (x == ("__debug__" : Str)) = false) (hcd : (x == ("__classdict__" : Str)) = false) (hb : PE X b (tE (pmOf X cls) P fb)) (m : MOk X (.Name x p0) "append" apos b cpos) :
    PS X (.Expr (.Call (.Attribute (.Name x p0) "append" apos) [b] [] cpos) pos) (tS (pmOf X cls) P (sApp i fb appD)) := by
  refine (ps_expr (pe_mG ty_lst PySem.F.plainAttrs_list PySem.F.slot_list_append PySem.F.type_list_append (r := rMutL fun xs y _ zs => xs.length < sizeLine ∧ zs = xs ++ [y]) (fun pins s σ H x xs v us Q I rx rxs ⟨y, ey, l, ws, y', zs, e1, e2, e3, ⟨e4, e5⟩, q⟩ => ?_) (pe_var hN hv hd hcd) (pa_one hb m.star) m.base m.few m.line (by rw [m.star]; rfl) rfl) rfl).weak fun D σ H h => seqApp ok ?_ ?_ h
  · subst ey e2 e5
    exact mt_append pins s σ H x [y] v us Q I rx rxs ⟨l, ws, y, e1, rfl, e3, e4, q⟩
  · intro d x d' h
    cases d with
    | list ds => exact ⟨ds, rfl⟩
    | _ => cases h
  · intro F H d x d' y vs sF hx l h
    unfold appD at h
    simp only at h
    split at h
    · rename_i hl
      cases h
      exact ⟨_, vs ++ [y], rfl, ⟨by rw [← l.length]; exact Nat.lt_of_lt_of_le hl lim_line, rfl⟩, l.append (.cons hx .nil)⟩
    · cases h
theorem s_ext {i : Nat} {x : Str} (ok : POk (pmOf X cls)) (hN : X.N[i]? = some x) (hv : Vis X.env.scope x) (hd : (x == ("__debug__" : Str)) = false) (hcd : (x == ("__classdict__" : Str)) = false) (hb : PE X b (tE (pmOf X cls) P fb)) (m : MOk X (.Name x p0) "extend" apos b cpos) :
    PS X (.Expr (.Call (.Attribute (.Name x p0) "extend" apos) [b] [] cpos) pos) (tS (pmOf X cls) P (sApp i fb extD)) := by
  refine (ps_expr (pe_mG ty_lst PySem.F.plainAttrs_list PySem.F.slot_list_extend PySem.F.type_list_extend (r := rMutL fun xs y H zs => ∃ b ys, y = .ref b ∧ H b = some (.lst ys) ∧ xs.length + ys.length ≤ sizeLine ∧ zs = xs ++ ys) (fun pins s σ H x xs v us Q I rx rxs ⟨y, ey, l, ws, y', zs, e1, e2, e3, ⟨b', ys, e4, e5, e6, e7⟩, q⟩ => ?_) (pe_var hN hv hd hcd) (pa_one hb m.star) m.base m.few m.line (by rw [m.star]; rfl) rfl) rfl).weak fun D σ H h => seqApp ok ?_ ?_ h
  · subst ey e2 e7 e4
    exact mt_extend pins s σ H x _ v us Q I rx rxs ⟨l, b', ws, ys, e1, rfl, e3, e5, e6, q⟩
  · intro d x d' h
    cases d with
    | list ds => exact ⟨ds, rfl⟩
    | _ => cases h
  · intro F H d x d' y vs sF hx l h
    cases x with
    | list es =>
      unfold extD at h
      simp only at h
      split at h
      · rename_i hl
        cases h
        cases hx with
        | @lst c _ ws hc lc =>
          exact ⟨_, vs ++ ws, rfl, ⟨c, ws, rfl, sF _ _ hc, by rw [← l.length, ← lc.length]; exact Nat.le_trans hl lim_line, rfl⟩, l.append lc⟩
      · cases h
    | _ => cases h
/-! ### slot[k] = v -/
def tPut (p : Pm) : TSet := fun o i v H Q => ∃ F a d kd vd d', o = .ref a ∧ Same F H ∧ Own p F H d o [a] ∧ At p F kd i ∧ At p F vd v ∧ putD d kd vd = some d' ∧ ∀ u, (Own p F (upd H a u) d' o [a]) → Q (upd H a u)
theorem set_put (hr : X.A.units + 64 < cLine) : PSet X (tPut (pmOf X cls)) := by
  intro pins s σ H o i v ov iv u Q I ro ri rv ⟨F, a, d, kd, vd, d', eo, sF, ow, hk, hv, hd, k⟩
  subst eo
  cases ro
  unfold putD at hd
  split at hd
  · rename_i kvs
    split at hd
    · rename_i key hkey
      split at hd
      · rename_i hp
        cases hd
        obtain ⟨k1, k2, ds, rfl⟩ := keyT_some hkey
        obtain ⟨b', vs, rfl, _, lb, fb⟩ := (show AtH (pmOf X cls) F H _ i from .inl hk).tup sF
        obtain ⟨a', xs, ep, e1, ha, ak⟩ := (show AtH (pmOf X cls) F H _ (.ref a) from .inr ⟨_, ow⟩).dct sF hp.2.1
        cases e1
        cases ri
        obtain ⟨h1, h2, h3⟩ := dct_at I sF ha ak
        refine wpAny_setItem_heap (knd := nestedKind X.prog X.w) (hsz := h2) (room8 hr) ⟨at_nested I sF _ _ _ _ hk k1 rfl, k2⟩ h3 fun h' hm hs => ?_
        obtain ⟨ep', I'⟩ := dO_write (t' := s.toks + (nestedKind X.prog X.w).draws key) I ha hm hs (by
          have := storedH_length xs key b' u
          have h5 : xs.length < lim := by rw [← ak.length]; exact hp.1
          have := lim_line
          omega)
        exact ⟨_, I', k _ (.dct upd_same hp.2.2 (ak.put k1 k2 hk rv hv))⟩
      · cases hd
    · cases hd
  · rename_i ds
    split at hd
    · rename_i n
      cases hj : ixN ds.length n with
      | none => rw [hj] at hd; cases hd
      | some j =>
        rw [hj] at hd
        cases hd
        cases hk
        obtain ⟨a', vs, e1, e2, ha, la⟩ := ow.lstI
        cases e1
        exact set_list pins s σ H (.ref a) (.int n) v (.ref a) iv u Q I rfl ri rv ⟨a, vs, n, j, rfl, rfl, ha, by rw [← la.length]; exact hj, k _ (.lst upd_same (la.set j hv))⟩
    · cases hd
  · cases hd
theorem putD_q {p : Pm} {F : Hp} {d kd vd d' : VL.D} {v : V} {q : List Addr} (h : putD d kd vd = some d') (o : Own p F H d v q) : ∃ a, v = .ref a ∧ q = [a] := by
  cases o with
  | lst h l => exact ⟨_, rfl, rfl⟩
  | dct h n l => exact ⟨_, rfl, rfl⟩
  | ins z h c n l => exact ⟨_, rfl, rfl⟩
  | tape ne h1 h2 l =>
    unfold putD at h
    simp only at h
    split at h
    · split at h
      · rename_i hp
        exact nomatch (show false = true from hp.2.1)
      · cases h
    · cases h
theorem Own.ins1 {p : Pm} {F : Hp} {d : VL.D} {v : V} {q : List Addr} {ci : Int} {fs : List VL.D} (o : Own p F H d v q) (e : insOf d = some (ci, fs)) (hc : ci ≠ 0) : ∃ a, v = .ref a ∧ q = [a] := by
  cases o with
  | lst h l => cases e
  | dct h n l => exact ⟨_, rfl, rfl⟩
  | ins z h c n l => exact ⟨_, rfl, rfl⟩
  | tape ne h1 h2 l =>
    have e1 : (0 : Int) = ci := congrArg Prod.fst (Option.some.inj ((insOf_ins 0 _).symm.trans e))
    exact absurd e1.symm hc
theorem s_put {i : Nat} {x : Str} {kk : Expr} (ok : POk (pmOf X cls)) (hr : X.A.units + 64 < cLine) (hN : X.N[i]? = some x) (hvis : Vis X.env.scope x) (hd : (x == ("__debug__" : Str)) = false) (hcd : (x == ("__classdict__" : Str)) = false) (hk : PE X kk (tE (pmOf X cls) P fk)) (hv : PE X value (tE (pmOf X cls) P fv))
    (hs : swapsWithSole [.Subscript (.Name x p0) kk tpos] value pos.line X.env = pure false) (hw : swappedStores [.Subscript (.Name x p0) kk tpos] value X.env = pure none)
    (ha : ∀ v, assign (.Subscript (.Name x p0) kk tpos) X.env v = (do
      let ov ← holding [v] (eval (.Name x p0) X.env)
      let iv ← holding [v, ov] (eval kk X.env)
      standAt tpos
      holding [v, ov, iv] (setItem ov iv v)
      release [v, ov, iv] [])) : PS X (.Assign [.Subscript (.Name x p0) kk tpos] value pos) (tS (pmOf X cls) P (sPut i fk fv)) := by
  refine (ps_asg hv (pg_sub (pe_var hN hvis hd hcd) hk (set_put (cls := cls) hr) ha) hs hw rfl).weak fun D σ H ⟨F, ρ, fp, R, h⟩ => ?_
  unfold sPut at h
  simp only [wpR_bind, wpR_lift, wpR_pure] at h
  obtain ⟨d0, hd0, h⟩ := h
  obtain ⟨w, hw1, _, _⟩ := R.ow _ _ (slotOw_some hd0)
  refine fz_go ok Ext.refl R h fun y g F1 H1 fp1 v E1 Er1 R1 A1 => ?_
  refine ⟨w, hw1, fz_go ok E1 R1 g fun z g2 F2 H2 fp2 kv E2 Er2 R2 A2 => ?_⟩
  obtain ⟨d, hd1, d', hd2, k⟩ := g2
  obtain ⟨w', hw2, o, nf⟩ := R2.ow _ _ (slotOw_some hd1)
  rw [hw1] at hw2
  cases hw2
  obtain ⟨a, rfl, hq⟩ := putD_q hd2 o
  rw [hq] at o
  refine ⟨F2, a, d, z.1, y.1, d', rfl, R2.sub, o, A2, A1.mono Er2.same, hd2, fun u ou => ?_⟩
  obtain ⟨E3, R3⟩ := R2.write (d' := d') (x := a) (o := u) (slotOw_some hd1) (by rw [hq]; simp) fun v hv => by
    rw [hw1] at hv
    cases hv
    rw [hq]
    exact ou
  exact k F2 _ fp2 σ (E2.trans E3) R3
/-! ### slot.f = v -/
theorem putF_new {f : Str} {v : V} : ∀ {fs : List (Str × V)}, f ∉ fs.map (·.1) → putF f v fs = fs ++ [(f, v)]
  | [], _ => rfl
  | (g, w) :: fs, h => by
    rw [List.map_cons, List.mem_cons, not_or] at h
    unfold putF
    rw [if_neg (fun z => h.1 z.symm), putF_new h.2]
    rfl
theorem s_fld {i c j : Nat} {x f : Str} {C : Addr} {ns : List Str} (ok : POk (pmOf X cls)) (hN : X.N[i]? = some x) (hvis : Vis X.env.scope x) (hd : (x == ("__debug__" : Str)) = false) (hcd : (x == ("__classdict__" : Str)) = false) (hv : PE X value (tE (pmOf X cls) P fv))
    (hc : c ≠ 0 ∧ c ≠ 99) (hcl : cls c = some (C, ns)) (hj : ns[j]? = some f) (nd : ns.Nodup) (C1 : Cls X.K C) (C2 : NoAttr X.K C f) (hs : swapsWith value (some (.Attribute (.Name x p0) f pos')) pos.line X.env = pure false) :
    PS X (.Assign [.Attribute (.Name x p0) f pos'] value pos) (tS (pmOf X cls) P (sMut i fv (fldD c j))) := by
  refine (ps_fld (pe_var hN hvis hd hcd) hv hs).weak fun D σ H ⟨F, ρ, fp, R, h⟩ => ?_
  unfold sMut at h
  simp only [wpR_bind, wpR_lift, wpR_pure] at h
  refine fz_go ok Ext.refl R h fun y g F1 H1 fp1 v E1 Er1 R1 A1 => ?_
  obtain ⟨d, hd1, d', hd2, k⟩ := g
  obtain ⟨w, hw, o, nf0⟩ := R1.ow _ _ (slotOw_some hd1)
  refine ⟨w, hw, ?_⟩
  unfold fldD at hd2
  split at hd2
  · rename_i c' fs e1
    split at hd2
    · rename_i hcond
      cases hd2
      have ec : c' = (c : Int) := by have := hcond.1; omega
      obtain ⟨a, C', dx, ns', fv', rfl, h2, h3, h4, l⟩ := (show AtH (pmOf X cls) F1 H1 d w from .inr ⟨_, o⟩).ins R1.sub e1 ec hc
      have h3 : cls c = some (C', ns') := h3
      rw [hcl] at h3
      cases h3
      have hq : fp1 i = [a] := by
        obtain ⟨a', e5, e6⟩ := o.ins1 e1 (by rw [ec]; omega)
        cases e5
        exact e6
      have hfl : fs.length = j := hcond.2.1
      have lv := l.length
      rw [List.length_map] at lv
      have hnew : f ∉ fv'.map (·.1) := by
        rw [h4, hfl]
        intro hm
        obtain ⟨n, hn, e⟩ := List.getElem_of_mem hm
        have hn' : n < j := by rw [List.length_take] at hn; omega
        rw [List.getElem_take] at e
        obtain ⟨q1, q2⟩ := List.getElem?_eq_some_iff.mp hj
        have := (List.getElem_inj nd).mp (e.trans q2.symm)
        omega
      refine ⟨a, C, dx, fv', rfl, h2, C1, C2, ?_, ?_⟩
      · have := hcond.2.2.1
        have h5 : VL.nf c ≤ 6 := by unfold VL.nf; split <;> omega
        omega
      · rw [putF_new hnew]
        obtain ⟨E3, R3⟩ := R1.write (d' := Dins c (fs ++ [y.1])) (x := a) (o := .ins C dx (fv' ++ [(f, v)])) (slotOw_some hd1) (by rw [hq]; simp) fun w hw' => by
          rw [hw] at hw'
          cases hw'
          rw [hq]
          refine .ins hc upd_same hcl ?_ ?_
          · rw [List.map_append, h4, List.length_append, hfl]
            show ns.take j ++ [f] = ns.take (j + 1)
            rw [List.take_succ, hj]
            rfl
          · rw [List.map_append]
            exact l.append (.cons A1 .nil)
        exact k F1 _ fp1 σ (E1.trans E3) R3
    · cases hd2
  · cases hd2
end
end VL

set_option Elab.async false
set_option linter.all false
set_option maxRecDepth 100000
/-! VT: the tape of draws, a dict of texts. -/
namespace VL
open PySem PySem.Spec PySem.W PyProof.Rows L2 StX
variable {X : Cx} {cls : Nat → Option (Addr × List Str)} {P : Pr}

theorem tapeOf_some {d : D} {tp : Bool} {g c : List Int} {l t : Int} (h : tapeOf d = some (tp, g, c, l, t)) : d = Dtape tp g c l t := by
  unfold tapeOf at h
  split at h
  · split at h
    · rename_i h1 h2
      cases h
      rw [intsOf_some h1, intsOf_some h2]
      try rfl
    · cases h
  · cases h
theorem tapeAt_some {ρ : Ev} {i : Nat} {tp : Bool} {g c : List Int} {l t : Int} (h : tapeAt i ρ = some (tp, g, c, l, t)) : ρ[i]? = some (.ow (Dtape tp g c l t)) := by
  unfold tapeAt at h
  split at h
  · rename_i e
    rw [e, tapeOf_some h]
  · cases h
/-- what a tape is in the heap -/
theorem Own.tapeI {p : Pm} {F H : Hp} {tp : Bool} {g c : List Int} {l t : Int} {v : V} {fp : List Addr} (h : Own p F H (Dtape tp g c l t) v fp) :
    ∃ a b q, v = .ref a ∧ fp = [a, b] ∧ a ≠ b ∧ H a = some (.dK (tapeL tp b q l t)) ∧ H b = some (.lst (g.map V.int)) ∧ F q = some (.lst (c.map V.int)) := by
  generalize e : Dtape tp g c l t = d at h
  cases h with
  | lst => cases e
  | dct _ n => cases e; cases n
  | ins z => cases e; exact absurd rfl z.1
  | tape ne h h2 l =>
    simp only [Dtape, Dins, PyData.dict.injEq, List.cons.injEq, Prod.mk.injEq, PyData.list.injEq, PyData.int.injEq, PyData.bool.injEq, and_true, true_and] at e
    obtain ⟨e1, e2, e3, e4, e5⟩ := e
    have inj : ∀ a b : Int, PyData.int a = PyData.int b → a = b := fun a b h => by cases h; rfl
    have j1 := (List.map_inj_right inj).mp e1
    have j2 := (List.map_inj_right inj).mp e2
    subst j1 j2 e3 e4 e5
    exact ⟨_, _, _, rfl, rfl, ne, h, h2, l⟩
theorem noSl_str {x : Str} {j p} : NoSl (.Constant (.str x) j p) := fun _ _ => rfl
theorem e_tint {i : Nat} {x : Str} {f tp : Bool} (hu : X.A.units + 1 < cLine) (hN : X.N[i]? = some x) (hv : Vis X.env.scope x) (hd : (x == ("__debug__" : Str)) = false) (hcd : (x == ("__classdict__" : Str)) = false) :
    PE X (.Subscript (.Name x p0) (.Constant (.str (kI f tp)) kk p1) pos) (tE (pmOf X cls) P (fTint i f tp)) := by
  refine (pe_dget hu (pe_var hN hv hd hcd) pe_str noSl_str).weak fun σ H Q ⟨F, ρ, fp, R, h⟩ => ?_
  unfold fTint at h
  split at h
  · rename_i tp' g c l t e
    split at h
    · rename_i hk
      obtain ⟨v, h1, h2, h3⟩ := R.ow _ _ (tapeAt_some e)
      obtain ⟨a, b, q, rfl, _, _, ha, _⟩ := h2.tapeI
      refine ⟨_, h1, a, .int (if f then t else l), rfl, ?_, h F H fp _ Ext.refl R (.int _)⟩
      cases f
      · rcases hk with hk | hk
        · cases hk
        · subst hk
          cases tp'
          · exact DGet.k (k := .inr "left") ha
          · exact DGet.k (k := .inr "rest") ha
      · cases tp'
        · exact DGet.k (k := .inr "turn") ha
        · exact DGet.k (k := .inr "turn") ha
    · exact h.elim
  · exact h.elim
theorem e_tcells {i : Nat} {x : Str} (hu : X.A.units + 1 < cLine) (hN : X.N[i]? = some x) (hv : Vis X.env.scope x) (hd : (x == ("__debug__" : Str)) = false) (hcd : (x == ("__classdict__" : Str)) = false) :
    PE X (.Subscript (.Name x p0) (.Constant (.str "cells") kk p1) pos) (tE (pmOf X cls) P (fTcells i)) := by
  refine (pe_dget hu (pe_var hN hv hd hcd) pe_str noSl_str).weak fun σ H Q ⟨F, ρ, fp, R, h⟩ => ?_
  unfold fTcells at h
  split at h
  · rename_i tp g c l t e
    obtain ⟨v, h1, h2, h3⟩ := R.ow _ _ (tapeAt_some e)
    obtain ⟨a, b, q, rfl, _, _, ha, _, hq⟩ := h2.tapeI
    refine ⟨_, h1, a, .ref q, rfl, ?_, h F H fp _ Ext.refl R (.lst hq (AtL.ints c))⟩
    cases tp
    · exact DGet.k (k := .inr "cells") ha
    · exact DGet.k (k := .inr "cells") ha
  · exact h.elim
theorem dpAll_ints {K : Frag} {H : Hp} : ∀ ns : List Int, DpAll K H (ns.map V.int) (ns.map .int)
  | [] => .nil
  | n :: ns => .cons (.int n) (dpAll_ints ns)
theorem lay_ints : ∀ ns : List Int, PyData.canLayAll0 (ns.map .int) = true
  | [] => rfl
  | n :: ns => by simp [PyData.canLayAll0, PyData.canLay0, lay_ints ns]
theorem depth_ints : ∀ ns : List Int, PyData.depthAll (ns.map .int) ≤ 1
  | [] => by simp [PyData.depthAll]
  | n :: ns => by
    have := depth_ints ns
    simp [PyData.depthAll, PyData.depth]
    omega
theorem shaped_ints (ns : List Int) : SeqAt.shaped (.list (ns.map .int)) = true := by
  have h1 : PyData.canLay0 (.list (ns.map .int)) = true := by
    rw [PyData.canLay0]
    exact lay_ints ns
  have h2 : PyData.depth (.list (ns.map .int)) ≤ 64 := by
    rw [PyData.depth]
    have := depth_ints ns
    omega
  unfold SeqAt.shaped
  rw [h1, decide_eq_true h2]
  rfl
theorem tape_g {H : Hp} {a b q : Addr} {tp : Bool} {l t : Int} (ha : H a = some (.dK (tapeL tp b q l t))) : DGet H a (.str (kG tp)) (some (.ref b)) := by
  cases tp
  · exact DGet.k (k := .inr "great") ha
  · exact DGet.k (k := .inr "large") ha
theorem e_tfull {i : Nat} {x : Str} {tp : Bool} (hu : X.A.units + 64 < cLine) (hN : X.N[i]? = some x) (hv : Vis X.env.scope x) (hd : (x == ("__debug__" : Str)) = false) (hcd : (x == ("__classdict__" : Str)) = false) :
    PE X (.Compare (.Subscript (.Name x p0) (.Constant (.str (kG tp)) kk p1) p2) [.NotEq] [.List [] p3] pos) (tE (pmOf X cls) P (fTfull i tp)) ∧ PT X (.Compare (.Subscript (.Name x p0) (.Constant (.str (kG tp)) kk p1) p2) [.NotEq] [.List [] p3] pos) (tT (pmOf X cls) P (fTest (fTfull i tp))) := by
  suffices key : ∀ σ H Q, tE (pmOf X cls) P (fTfull i tp) σ H Q → tOp (rNeD X.K) (tDGet (tVar i) (tC (.str (kG tp)))) (tLst tNil) σ H Q from
    ⟨(pe_cmpR (op_neD hu) (pe_dget (by omega) (pe_var hN hv hd hcd) pe_str noSl_str) (pe_lst pa_nil) rfl).weak fun σ H Q h => key σ H Q h, (pt_cmpR (op_neD hu) (pe_dget (by omega) (pe_var hN hv hd hcd) pe_str noSl_str) (pe_lst pa_nil) rfl).weak fun σ H Q h => key σ H _ (test_of h)⟩
  intro σ H Q ⟨F, ρ, fp, R, h⟩
  unfold fTfull at h
  split at h
  · rename_i tp' g c l t e
    split at h
    · rename_i hk
      subst hk
      obtain ⟨v, h1, h2, h3⟩ := R.ow _ _ (tapeAt_some e)
      obtain ⟨a, b, q, rfl, _, _, ha, hb, hq⟩ := h2.tapeI
      refine ⟨_, h1, a, .ref b, rfl, tape_g ha, Nat.zero_le _, fun y hy => ?_⟩
      obtain ⟨E2, R2, nF, nW⟩ := R.newH (o := .lst []) hy
      have hb' : upd H y (.lst []) b = some (.lst (g.map V.int)) := by
        rw [upd_ne (fun z => by subst z; rw [hb] at hy; cases hy)]
        exact hb
      refine ⟨_, _, .lst (.inl (.of hb')) (dpAll_ints g), .lst (.inl (.of upd_same)) .nil, ?_, rfl, ?_⟩
      · exact shaped_ints g
      · have : (!PyData.eqv (.list (g.map .int)) (.list [])) = !g.isEmpty := by
          cases g <;> rfl
        rw [this]
        exact h _ _ fp _ E2 R2 (.bl _)
    · exact h.elim
  · exact h.elim
theorem e_tpop {i : Nat} {x : Str} {tp : Bool} (hu : X.A.units + 64 < cLine) (hN : X.N[i]? = some x) (hv : Vis X.env.scope x) (hd : (x == ("__debug__" : Str)) = false) (hcd : (x == ("__classdict__" : Str)) = false) (hl : (apos.endLine == cpos.line) = true) :
    PE X (.Call (.Attribute (.Subscript (.Name x p0) (.Constant (.str (kG tp)) kk p1) p2) "pop" apos) [.Constant (.int 0) k2 p3] [] cpos) (tE (pmOf X cls) P (fTpop i tp)) := by
  refine (pe_mG ty_lst PySem.F.plainAttrs_list PySem.F.slot_list_pop PySem.F.type_list_pop mt_popAt (pe_dget (by omega) (pe_var hN hv hd hcd) pe_str noSl_str) (pa_one pe_int rfl) rfl rfl hl rfl rfl).weak fun σ H Q ⟨F, ρ, fp, R, h⟩ => ?_
  unfold fTpop at h
  split at h
  · rename_i tp' z g c l t e
    split at h
    · rename_i hg
      have hk := hg.1
      subst hk
      have e := tapeAt_some e
      obtain ⟨v, h1, h2, h3⟩ := R.ow _ _ e
      obtain ⟨a, b, q, rfl, hfp, ne, ha, hb, hq⟩ := h2.tapeI
      obtain ⟨E2, R2⟩ := R.write (d' := Dtape tp' g c l t) (x := b) (o := .lst (g.map V.int)) e (by rw [hfp]; simp) fun v hv => by
        rw [h1] at hv
        cases hv
        rw [hfp]
        exact .tape ne (by rw [upd_ne ne]; exact ha) upd_same hq
      refine ⟨_, h1, a, .ref b, rfl, tape_g ha, ⟨b, _, rfl, hb⟩, ?_⟩
      refine ⟨b, _, 0, 0, .int z, rfl, rfl, hb, ?_, ?_, ?_, rfl, h _ _ fp _ E2 R2 (.int z)⟩
      · simp
      · simp
      · exact seqIndex_nn (Int.le_refl _) (by simp)
    · exact h.elim
  · exact h.elim
theorem tape_put {tp f : Bool} {b q : Addr} {l t n : Int} : putK (tapeL tp b q l t) (.inr (kI f tp)) (.int n) = tapeL tp b q (if f then l else n) (if f then n else t) := by
  cases tp <;> cases f <;> rfl
theorem kI_true (tp tp' : Bool) : kI true tp = kI true tp' := rfl
theorem s_tset {i : Nat} {x : Str} {f tp : Bool} (hu : X.A.units + 1 < cLine) (hN : X.N[i]? = some x) (hv : Vis X.env.scope x) (hd : (x == ("__debug__" : Str)) = false) (hcd : (x == ("__classdict__" : Str)) = false)
    (he : PE X value (tE (pmOf X cls) P fa)) (hs : swapsWith value (some (.Subscript (.Name x p0) (.Constant (.str (kI f tp)) kk p1) tpos)) pos.line X.env = pure false) :
    PS X (.Assign [.Subscript (.Name x p0) (.Constant (.str (kI f tp)) kk p1) tpos] value pos) (tS (pmOf X cls) P (sTset i f tp fa)) := by
  refine (ps_dput hu (pe_var hN hv hd hcd) pe_str he hs).weak fun D σ H ⟨F, ρ, fp, R, h⟩ => ?_
  unfold sTset at h
  split at h
  · simp only [wpR_bind, wpR_lift, wpR_pure] at h
    refine tE.go Ext.refl R h fun y g F1 H1 fp1 v E1 _ R1 V1 => ?_
    obtain ⟨r, ρ1⟩ := y
    split at g
    · rename_i n tp' g' c l t e1 e
      simp only at e1
      subst e1
      cases V1
      split at g
      · rename_i hk
        have e := tapeAt_some e
        obtain ⟨w, h1, h2, h3⟩ := R1.ow _ _ e
        obtain ⟨a, b, q, rfl, hfp, ne, ha, hb, hq⟩ := h2.tapeI
        have hkey : kI f tp = kI f tp' := by
          cases f
          · rcases hk with hk | hk
            · cases hk
            · rw [hk]
          · rfl
        obtain ⟨E2, R2⟩ := R1.write (d' := if f = true then Dtape tp' g' c l n else Dtape tp' g' c n t) (x := a) (o := .dK (putK (tapeL tp' b q l t) (.inr (kI f tp')) (.int n))) e (by rw [hfp]; simp) fun v hv => by
          rw [h1] at hv
          cases hv
          rw [hfp, tape_put]
          cases f
          · exact .tape ne upd_same (by rw [upd_ne ne.symm]; exact hb) hq
          · exact .tape ne upd_same (by rw [upd_ne ne.symm]; exact hb) hq
        refine ⟨_, h1, a, _, rfl, ?_, g F1 _ fp1 σ (E1.trans E2) R2⟩
        rw [hkey]
        exact DPut.k (k := .inr (kI f tp')) ha (by
          have : (tapeL tp' b q l t).length = 4 := by cases tp' <;> rfl
          rw [this, sizeLine_eq]; omega)
      · exact g.elim
    · exact g.elim
  · exact h.elim
theorem at_ints {p : Pm} {F : Hp} : ∀ {ns : List Int} {vs : List V}, AtL p F (ns.map .int) vs → vs = ns.map V.int
  | [], _, .nil => rfl
  | n :: ns, _, .cons h t => by
    cases h
    rw [at_ints t]; rfl
theorem tapeL_merge {tp : Bool} {b q : Addr} {l t : Int} : mergeK [] (tapeL tp b q l t) = tapeL tp b q l t := by cases tp <;> rfl
/-- the end of a new tape -/
theorem rtape_end {i : Nat} {tp : Bool} {D : Ends} {F0 H0 F H : Hp} {W0 : Addr → Prop} {ρ : Ev} {σ : L2.St} {fp : Nat → List Addr} {gs c : List Int} {p0 b q : Addr}
    (R : Rep (pmOf X cls) P F H ρ σ fp) (E : Ext F0 H0 W0 F H (Wn ρ fp)) (hf : Free P i) (n0 : H0 p0 = none) (nF : F p0 = none) (nW : ¬ Wn ρ fp p0)
    (e : ρ[i]? = some (.ow (.list (gs.map .int)))) (hv : σ[i]? = some (some (.ref b))) (hq : F q = some (.lst (c.map V.int)))
    (k : EndsIn (pmOf X cls) P D F0 H0 W0 (.rt (.ow i) (ρ.set i (.ow (Dtape tp gs c 0 0))))) : D.rt (.ref p0) (upd H p0 (.dK (tapeL tp b q 0 0))) := by
  obtain ⟨E2, R2⟩ := Rep.free (x := p0) (o := .dK (tapeL tp b q 0 0)) E R n0 nF nW
  obtain ⟨R3, w3⟩ := R2.setS (i := i) (w := .un) (v := none) trivial
  have hil : i < ρ.length := (List.getElem?_eq_some_iff.mp e).1
  obtain ⟨v', h1, h2, h3⟩ := R2.ow i _ e
  rw [hv] at h1
  cases h1
  have hb : fp i = [b] ∧ upd H p0 (.dK (tapeL tp b q 0 0)) b = some (.lst (gs.map V.int)) := by
    generalize hd : PyData.list (gs.map .int) = d at h2
    generalize hfp : fp i = f at h2
    generalize hvv : V.ref b = vv at h2
    cases h2 with
    | lst hl al =>
      cases hd
      cases hvv
      have := at_ints al
      subst this
      exact ⟨rfl, hl⟩
    | dct _ _ _ => cases hd
    | ins _ _ _ _ _ => cases hd
    | tape _ _ _ _ => cases hd
  have ne : p0 ≠ b := fun z => nW ⟨i, _, e, by rw [hb.1, z]; simp⟩
  have o : Own (pmOf X cls) F (upd H p0 (.dK (tapeL tp b q 0 0))) (Dtape tp gs c 0 0) (.ref p0) [p0, b] := .tape ne upd_same hb.2 hq
  obtain ⟨R4, w4⟩ := R3.setOw (i := i) o (fun a ha => by
    simp at ha
    rcases ha with rfl | rfl
    · exact ⟨nF, fun w => nW (w3 _ w)⟩
    · refine ⟨h3 _ (by rw [hb.1]; simp), fun ⟨j, d, hj, haj⟩ => ?_⟩
      rcases set_get hj with ⟨_, z⟩ | ⟨z, hj⟩
      · cases z
      · exact R.dj j i d _ z hj e _ haj (by rw [hb.1]; simp)) hf (by rw [List.length_set]; exact hil)
  rw [List.set_set, List.set_set] at R4
  rw [List.set_set] at w4
  have hW : ∀ a, Wn (ρ.set i (.ow (Dtape tp gs c 0 0))) (fun j => if j = i then [p0, b] else fp j) a → W0 a ∨ H0 a = none := fun a w => by
    rcases w4 a w with z | z
    · exact E2.newW a (w3 a z)
    · simp at z
      rcases z with rfl | rfl
      · exact .inr n0
      · exact E2.newW _ ⟨i, _, e, by rw [hb.1]; simp⟩
  exact k _ _ _ _ (.ref p0) ⟨E2.same, E2.keep, E2.there, E2.newF, hW⟩ R4 (by
    show (σ.set i (some (V.ref p0)))[i]? = _
    rw [List.getElem?_set_self (by rw [← R.len]; exact hil)])
theorem rtape_mid {i : Nat} {tp : Bool} {fa : FE} {D : Ends} {σ : L2.St} {H : Hp} {b p0 : Addr} (hok : POk (pmOf X cls)) (hf : Free P i) {F : Hp} {ρ : Ev} {fp : Nat → List Addr} (R : Rep (pmOf X cls) P F H ρ σ fp)
    (h : wpR (Exc P F H (Wn ρ fp)) (EndsIn (pmOf X cls) P D F H (Wn ρ fp)) (sRtape i tp fa ρ)) (hp : H p0 = none) (hv : σ[i]? = some (some (.ref b))) :
    tE (pmOf X cls) P fa σ (upd H p0 (.dK [])) fun y H2 => H2 p0 = some (.dK []) ∧ ∃ q, y = .ref q ∧ D.rt (.ref p0) (upd H2 p0 (.dK (tapeL tp b q 0 0))) := by
  unfold sRtape at h
  split at h
  · obtain ⟨E1, R1, nF, nW⟩ := R.newH (o := .dK []) hp
    unfold fFz at h
    simp only [wpR_bind, wpR_lift, wpR_pure] at h
    refine tE.go E1 R1 h fun x k F2 H2 fp2 v2 E2 E12 R2 V2 => ?_
    obtain ⟨y, hy, k⟩ := k
    obtain ⟨F3, m, R3, A3, s3⟩ := fz_ok (ρ' := y.2) (d := y.1) hok R2 V2 hy
    have E3 := m (fun a ha => E1.there a ha) E2
    have E13 := m (fun a ha => ha) E12
    have hH2 : H2 p0 = some (.dK []) := E12.keep p0 _ upd_same nW
    have z1 : F3 p0 = none := by
      cases z : F3 p0 with
      | none => rfl
      | some u =>
        rcases E13.newF p0 (by rw [z]; simp) with w | w | w
        · exact absurd nF w
        · rw [upd_same] at w; cases w
        · exact absurd w nW
    have z2 : ¬ Wn y.2 fp2 p0 := fun w => by
      rcases E13.newW p0 w with w | w
      · exact nW w
      · rw [upd_same] at w; cases w
    split at k
    · rename_i g' cs h1 h2
      split at k
      · rename_i gs c h3 h4
        have e3 := intsOf_some h3
        have e4 := intsOf_some h4
        rw [e3] at h1
        rw [h2, e4] at A3
        generalize hd : PyData.list (c.map .int) = d at A3
        cases A3 with
        | lst hl al =>
          cases hd
          have := at_ints al
          subst this
          exact ⟨hH2, _, rfl, rtape_end R3 E3 hf hp z1 z2 (slotOw_some h1) hv hl k⟩
        | _ => cases hd
      · exact k.elim
    · exact k.elim
  · exact h.elim
theorem Own.isRef {p : Pm} {F H : Hp} {d : VL.D} {v : V} {fp : List Addr} (h : Own p F H d v fp) : ∃ b, v = .ref b := by
  cases h <;> exact ⟨_, rfl⟩
theorem s_rtapeA {i : Nat} {x : Str} {e : Expr} {fa : FE} {k1 k2 k3 k4 : Str} (hok : POk (pmOf X cls)) (hN : X.N[i]? = some x) (hv : Vis X.env.scope x) (hd : (x == ("__debug__" : Str)) = false) (hcd : (x == ("__classdict__" : Str)) = false) (hf : Free P i)
    (he : PE X e (tE (pmOf X cls) P fa)) {kk1 kk2 kk3 kk4 j1 j2 : _} {p1 p2 p3 p4 p5 p6 p7 p8 p9 : Pos} :
    PS X (.Return (some (.Dict [some (.Constant (.str "great") kk1 p1), some (.Constant (.str "cells") kk2 p2), some (.Constant (.str "left") kk3 p3), some (.Constant (.str "turn") kk4 p4)] [.Name x p5, e, .Constant (.int 0) j1 p6, .Constant (.int 0) j2 p7] p8)) p9) (tS (pmOf X cls) P (sRtape i false fa)) := by
  refine (ps_ret (pe_disp (pps_cons pe_str (pe_var hN hv hd hcd) (pps_cons pe_str he (pps_cons pe_str pe_int (pps_cons pe_str pe_int pps_nil)))) rfl rfl (by simp) (by simp))).weak fun D σ H ⟨F, ρ, fp, R, h⟩ => ?_
  intro p0 hp
  have h0 := h
  unfold sRtape at h0
  split at h0
  · rename_i g hg
    obtain ⟨v, h1, h2, _⟩ := R.ow i _ (slotOw_some hg)
    obtain ⟨b, rfl⟩ : ∃ b, v = .ref b := h2.isRef
    refine ⟨_, h1, ?_⟩
    obtain ⟨F2, ρ2, fp2, R2, h3⟩ := rtape_mid (tp := false) (D := D) (b := b) (p0 := p0) hok hf R h hp h1
    refine ⟨F2, ρ2, fp2, R2, wpR_mono h3 (fun _ z => z) fun y k F' H' fp' v' E' R' V' => ?_⟩
    obtain ⟨k1, q, rfl, k2⟩ := k F' H' fp' v' E' R' V'
    exact ⟨k1, tapeL false b q 0 0, rfl, by simp [tapeL], by rw [tapeL_merge]; exact k2⟩
  · exact h0.elim
theorem s_rtapeB {i : Nat} {x : Str} {e : Expr} {fa : FE} {k1 k2 k3 k4 : Str} (hok : POk (pmOf X cls)) (hN : X.N[i]? = some x) (hv : Vis X.env.scope x) (hd : (x == ("__debug__" : Str)) = false) (hcd : (x == ("__classdict__" : Str)) = false) (hf : Free P i)
    (he : PE X e (tE (pmOf X cls) P fa)) {kk1 kk2 kk3 kk4 j1 j2 : _} {p1 p2 p3 p4 p5 p6 p7 p8 p9 : Pos} :
    PS X (.Return (some (.Dict [some (.Constant (.str "large") kk1 p1), some (.Constant (.str "rest") kk3 p3), some (.Constant (.str "cells") kk2 p2), some (.Constant (.str "turn") kk4 p4)] [.Name x p5, .Constant (.int 0) j1 p6, e, .Constant (.int 0) j2 p7] p8)) p9) (tS (pmOf X cls) P (sRtape i true fa)) := by
  refine (ps_ret (pe_disp (pps_cons pe_str (pe_var hN hv hd hcd) (pps_cons pe_str pe_int (pps_cons pe_str he (pps_cons pe_str pe_int pps_nil)))) rfl rfl (by simp) (by simp))).weak fun D σ H ⟨F, ρ, fp, R, h⟩ => ?_
  intro p0 hp
  have h0 := h
  unfold sRtape at h0
  split at h0
  · rename_i g hg
    obtain ⟨v, h1, h2, _⟩ := R.ow i _ (slotOw_some hg)
    obtain ⟨b, rfl⟩ : ∃ b, v = .ref b := h2.isRef
    refine ⟨_, h1, ?_⟩
    obtain ⟨F2, ρ2, fp2, R2, h3⟩ := rtape_mid (tp := true) (D := D) (b := b) (p0 := p0) hok hf R h hp h1
    refine ⟨F2, ρ2, fp2, R2, wpR_mono h3 (fun _ z => z) fun y k F' H' fp' v' E' R' V' => ?_⟩
    obtain ⟨k1, q, rfl, k2⟩ := k F' H' fp' v' E' R' V'
    exact ⟨k1, tapeL true b q 0 0, rfl, by simp [tapeL], by rw [tapeL_merge]; exact k2⟩
  · exact h0.elim
end VL

set_option Elab.async false
set_option linter.all false
set_option maxRecDepth 100000
/-! V23: from the program's text to the language of values. -/
namespace VL
open PySem

/-- what the text's names are: the slots; the defs (number, how many parameters, the defaults); numbers; classes (number, its __init__); attributes (class, a field's place or a property's def); which names are kept as owned -/
structure TEnv where
  N : List Str
  fn : Str → Option (Nat × Nat × List D)
  num : Str → Option Int
  cl : Str → Option (Nat × Nat)
  att : Str → Option (Nat × Sum Nat Nat)
  own : List Str
  mp : Nat → List Nat
  pm : List Nat
  lim : Nat
/-- the scope that runs, the scope as it is written -/
structure Sco where
  sc : Scope
  ws : Scope
def Sco.blk (S : Sco) (scope : Scope) : Sco := ⟨L2.relS scope S.sc, scope⟩

def opM : Operator → Option MOp
  | .Add => some .add | .Sub => some .sub | .Mult => some .mul | .FloorDiv => some .fdiv | .Mod => some .mod | .Pow => some .pow
  | _ => none
def cmpM : CmpOp → Option COp
  | .Eq => some .eq | .NotEq => some .ne | .Lt => some .lt | .LtE => some .le | .Gt => some .gt | .GtE => some .ge | .Is => some .isN | .IsNot => some .notN | .In => some .isin | .NotIn => some .notin
def visB (sc : Scope) (x : Str) : Bool := match sc.names.lookup x with
  | some .local => true
  | some .cell => true
  | some .free => true
  | _ => false
def globB (sc : Scope) (x : Str) : Bool := match sc.names.lookup x with
  | some .globalImplicit => true
  | _ => false
def storeB (S : Sco) (x : Str) : Bool := match S.ws.names.lookup x with
  | some .local => true
  | some .cell => true
  | _ => false
def localB (S : Sco) (x : Str) : Bool := match S.ws.names.lookup x with
  | some .local => true
  | _ => false
def plainName (x : Str) : Bool := !(x == ("__debug__" : Str)) && !(x == ("__classdict__" : Str))
def ixOf (N : List Str) (x : Str) : Option Nat := match N.idxOf x with
  | i => if N[i]? = some x then some i else none
def slot (T : TEnv) (S : Sco) (x : Str) : Option Nat := if visB S.sc x && plainName x then ixOf T.N x else none
def starB : Expr → Bool
  | .Starred .. => true
  | _ => false
def starOf : Expr → Option Expr
  | .Starred e _ => some e
  | _ => none
def noStars (es : List Expr) : Bool := es.all fun e => !starB e
def noSuper : Expr → Bool
  | .Call (.Name _ _) [] [] _ => false
  | _ => true
def plainIx : Expr → Bool
  | .Slice .. => false
  | _ => true
def isCompB : Expr → Bool
  | .ListComp .. => true
  | .SetComp .. => true
  | .DictComp .. => true
  | _ => false
def isSetB : Expr → Bool
  | .Set .. => true
  | _ => false
/-- can be read as a test -/
def tstB : Expr → Bool
  | .IfExp .. => false
  | .BoolOp .. => true
  | .UnaryOp .Not _ _ => true
  | .UnaryOp .. => false
  | .Compare .. => true
  | .Name .. => true
  | .Call .. => true
  | .Attribute .. => true
  | .Subscript .. => true
  | .Constant .. => true
  | _ => false
def tyOf (T : TEnv) (S : Sco) : Expr → Option Ty
  | .Name x _ => if globB S.sc x && plainName x then
      (if x = "int" then some .int else if x = "bool" then some .bool else if x = "str" then some .str else if x = "tuple" then some .tuple else if x = "list" then some .list
       else (T.cl x).map fun c => .cls c.1) else none
  | _ => none
/-- the own names of a block, by their places -/
def ownOf (N : List Str) (scope : Scope) : List (Str × Nat) := scope.names.filterMap fun y => match y.2 with
  | .local => (ixOf N y.1).map fun i => (y.1, i)
  | .cell => (ixOf N y.1).map fun i => (y.1, i)
  | _ => none
def biOf (x : Str) : Option BI := if x = "len" then some .len else if x = "abs" then some .abs else if x = "int" then some .int else if x = "tuple" then some .tuple else if x = "list" then some .list else if x = "sorted" then some .sorted
  else if x = "sum" then some .sum else if x = "all" then some .all else if x = "any" then some .any else if x = "min" then some .min else if x = "max" then some .max else none
def trTs (T : TEnv) (S : Sco) : List Expr → Option (List Nat)
  | [] => some []
  | .Name x _ :: es => if storeB S x then (match ixOf T.N x, trTs T S es with
    | some i, some is => some (i :: is)
    | _, _ => none) else none
  | _ :: _ => none
/-- a target's slots -/
def trT (T : TEnv) (S : Sco) : Expr → Option MT
  | .Name x _ => if storeB S x then (ixOf T.N x).map .nm else none
  | .Tuple es _ _ => (trTs T S es).map .tp
  | _ => none
def slotsIn (t : MT) (own : List Nat) : Bool := t.slots.all fun i => decide (i ∈ own)
def tupT : Expr → Bool
  | .Tuple .. => true
  | _ => false
/-! the tape of draws -/
def freeP (T : TEnv) (i : Nat) : Bool := decide (i ∉ T.pm)
def tKey : Expr → Option Str
  | .Constant (.str k) _ _ => some k
  | _ => none
def isZero : Expr → Bool
  | .Constant (.int i) _ _ => i == 0
  | _ => false
def isNil : Expr → Bool
  | .List [] _ => true
  | _ => false
def tapeRef (T : TEnv) (S : Sco) : Expr → Option (Nat × Str)
  | .Subscript (.Name x _) k _ => match slot T S x, tKey k with
    | some i, some k => some (i, k)
    | _, _ => none
  | _ => none
def keyI (k : Str) : Option (Bool × Bool) := if k = "left" then some (false, false) else if k = "rest" then some (false, true) else if k = "turn" then some (true, false) else none
def keyG (k : Str) : Option Bool := if k = "great" then some false else if k = "large" then some true else none
theorem keyI_some {k : Str} {f tp : Bool} (h : keyI k = some (f, tp)) : k = kI f tp := by
  unfold keyI at h
  split at h
  · rename_i e; cases h; exact e
  · split at h
    · rename_i e; cases h; exact e
    · split at h
      · rename_i e; cases h; exact e
      · cases h
theorem keyG_some {k : Str} {tp : Bool} (h : keyG k = some tp) : k = kG tp := by
  unfold keyG at h
  split at h
  · rename_i e; cases h; exact e
  · split at h
    · rename_i e; cases h; exact e
    · cases h
def trTape (T : TEnv) (S : Sco) : Expr → Option ME
  | .Subscript a k p => match tapeRef T S (.Subscript a k p) with
    | some (i, k) => (match keyI k with
      | some (f, tp) => some (.tint i f tp)
      | none => if k = "cells" then some (.tcells i) else none)
    | none => none
  | .Compare a [.NotEq] [b] _ => match tapeRef T S a with
    | some (i, k) => (match keyG k with
      | some tp => if isNil b then some (.tfull i tp) else none
      | none => none)
    | none => none
  | .Call (.Attribute o "pop" ap) [b] [] cp => match tapeRef T S o with
    | some (i, k) => (match keyG k with
      | some tp => if isZero b && (ap.endLine == cp.line) then some (.tpop i tp) else none
      | none => none)
    | none => none
  | _ => none
/-- state[k] = e -/
def tapeSet (T : TEnv) (S : Sco) : Stmt → Option (Nat × (Bool × Bool) × Expr)
  | .Assign [.Subscript (.Name x _) k _] e _ => if isCompB e then none else match slot T S x, tKey k with
    | some i, some k => (match keyI k with
      | some q => some (i, q, e)
      | none => none)
    | _, _ => none
  | _ => none
/-- return {"great": great, "cells": e, "left": 0, "turn": 0} -/
def tapeRet (T : TEnv) (S : Sco) : Stmt → Option (Nat × Bool × Expr)
  | .Return (some (.Dict [some k1, some k2, some k3, some k4] [.Name x _, v2, v3, v4] _)) _ => (match slot T S x with
    | some i => if freeP T i then (if tKey k1 == some "great" && tKey k2 == some "cells" && tKey k3 == some "left" && tKey k4 == some "turn" && isZero v3 && isZero v4 then some (i, false, v2)
        else if tKey k1 == some "large" && tKey k2 == some "rest" && tKey k3 == some "cells" && tKey k4 == some "turn" && isZero v2 && isZero v4 then some (i, true, v3) else none) else none
    | none => none)
  | _ => none
mutual
def trE (T : TEnv) : Nat → Sco → Expr → Option ME
  | 0, _, _ => none
  | n + 1, S, e => match trTape T S e with
    | some m => some m
    | none => match e with
    | .Name x _ => match slot T S x with
      | some i => some (.var i)
      | none => if globB S.sc x && plainName x then (T.num x).map .int else none
    | .Constant (.int i) _ _ => some (.int i)
    | .Constant (.bool b) _ _ => some (.bl b)
    | .Constant .none _ _ => some .non
    | .UnaryOp .USub a _ => (trE T n S a).map .neg
    | .UnaryOp .Not a _ => if tstB a then (trE T n S a).map .not else none
    | .BinOp a op b _ => do
      let o ← opM op
      let x ← trE T n S a
      let y ← trE T n S b
      pure (.bin o x y)
    | .Compare a [op] [b] _ => if isSetB b then none else do
      let o ← cmpM op
      let x ← trE T n S a
      let y ← trE T n S b
      pure (.cmp o x y)
    | .Compare a [op, op'] [b, c] _ => if isSetB c then none else do
      let o ← cmpM op
      let o' ← cmpM op'
      let x ← trE T n S a
      let y ← trE T n S b
      let z ← trE T n S c
      pure (.chain o o' x y z)
    | .BoolOp _ [a] _ => if tstB a then trE T n S a else none
    | .BoolOp op (a :: b :: r) p => if tstB a then do
      let x ← trE T n S a
      let y ← trE T n S (.BoolOp op (b :: r) p)
      pure (match op with
        | .And => .and x y
        | .Or => .or x y) else none
    | .IfExp c a b _ => if tstB c then do
      let x ← trE T n S c
      let y ← trE T n S a
      let z ← trE T n S b
      pure (.ite x y z) else none
    | .Tuple es _ _ => (trA T n S es).map .tup
    | .List es _ => (trA T n S es).map .lst
    | .Dict [] [] _ => some .dic0
    | .Dict [some k] [v] _ => do
      let x ← trE T n S k
      let y ← trE T n S v
      pure (.dic1 x y)
    | .Subscript a (.Slice lo hi none _) _ => do
      let x ← trE T n S a
      let l ← trP T n S lo
      let h ← trP T n S hi
      pure (.slc x l h)
    | .Subscript a i _ => if plainIx i then do
      let x ← trE T n S a
      let y ← trE T n S i
      pure (.ix x y) else none
    | .Attribute a f _ => if noSuper a then do
      let x ← trE T n S a
      match ← T.att f with
      | (c, .inl j) => pure (.fld x c j)
      | (c, .inr g) => if g < T.lim then pure (.prop x c g) else none
      else none
    | .ListComp elt [⟨t, it, cs, 0⟩] scope _ => if L2.blkC T.N S.sc scope (ownOf T.N scope) && !isSetB it then do
      let own := (ownOf T.N scope).map (·.2)
      let t' ← trT T (S.blk scope) t
      let it' ← trI T n S (tupT t) it
      let cs' ← trC T n (S.blk scope) cs
      let e' ← trE T n (S.blk scope) elt
      if slotsIn t' own then pure (.comp own t' it' cs' e') else none
      else none
    | .ListComp elt [⟨t, it, cs, 0⟩, ⟨t1, it1, cs1, 0⟩] scope _ => if L2.blkC T.N S.sc scope (ownOf T.N scope) && !isSetB it && !isSetB it1 then do
      let own := (ownOf T.N scope).map (·.2)
      let t' ← trT T (S.blk scope) t
      let it' ← trI T n S (tupT t) it
      let cs' ← trC T n (S.blk scope) cs
      let t1' ← trT T (S.blk scope) t1
      let it1' ← trI T n (S.blk scope) (tupT t1) it1
      let cs1' ← trC T n (S.blk scope) cs1
      let e' ← trE T n (S.blk scope) elt
      if slotsIn t' own && slotsIn t1' own then pure (.comp2 own t1'.slots t' it' cs' t1' it1' cs1' e') else none
      else none
    | .DictComp k v [⟨t, it, cs, 0⟩] scope _ => if L2.blkC T.N S.sc scope (ownOf T.N scope) && !isSetB it then do
      let own := (ownOf T.N scope).map (·.2)
      let t' ← trT T (S.blk scope) t
      let it' ← trI T n S (tupT t) it
      let cs' ← trC T n (S.blk scope) cs
      let k' ← trE T n (S.blk scope) k
      let v' ← trE T n (S.blk scope) v
      if slotsIn t' own then pure (.dcomp own t' it' cs' k' v') else none
      else none
    | .Call (.Name "sorted" _) [.Call (.Attribute o "values" ap) [] [] cp] [] _ => if globB S.sc "sorted" && noSuper o && (ap.endLine == cp.line) then (trE T n S o).map (.biv .sorted) else none
    | .Call (.Name "isinstance" _) [a, .Tuple [t1, t2] _ _] [] _ => if globB S.sc "isinstance" && noStars [a, t1, t2] then do
      let x ← trE T n S a
      let y ← tyOf T S t1
      let z ← tyOf T S t2
      pure (.ist x [y, z]) else none
    | .Call (.Name "isinstance" _) [a, t] [] _ => if globB S.sc "isinstance" && noStars [a, t] then do
      let x ← trE T n S a
      let y ← tyOf T S t
      pure (.ist x [y]) else none
    | .Call (.Name x _) (a :: as) [] _ => if globB S.sc x && plainName x && noStars (a :: as) then
        (match T.fn x with
        | some (f, k, dfl) => if f < T.lim && ((as.length + 1 == k) || (as.length + 1 + dfl.length == k)) then do
            let es ← trM T n S (T.mp f) 0 (a :: as)
            pure (.call f es (if as.length + 1 == k then [] else dfl))
          else none
        | none => match T.cl x with
          | some (c, f) => if f < T.lim then (trA T n S (a :: as)).map (.new c f) else none
          | none => match biOf x with
            | some b => (trA T n S (a :: as)).map (.bi b)
            | none => none)
      else none
    | .Call (.Attribute (.Name x _) "pop" ap) [b] [] cp => if !starB b && (ap.endLine == cp.line) then do
      let i ← slot T S x
      let y ← trE T n S b
      pure (.pop i y) else none
    | .Call (.Attribute o "count" ap) [b] [] cp => if noSuper o && !starB b && (ap.endLine == cp.line) then do
      let x ← trE T n S o
      let y ← trE T n S b
      pure (.cnt x y) else none
    | _ => none
def trA (T : TEnv) : Nat → Sco → List Expr → Option MA
  | 0, _, _ => none
  | _ + 1, _, [] => some .nil
  | n + 1, S, e :: es => match starOf e with
    | some e' => do
      let x ← trE T n S e'
      let r ← trA T n S es
      pure (.star x r)
    | none => do
      let x ← trE T n S e
      let r ← trA T n S es
      pure (.cons x r)
def trM (T : TEnv) : Nat → Sco → List Nat → Nat → List Expr → Option MA
  | 0, _, _, _, _ => none
  | _ + 1, _, _, _, [] => some .nil
  | n + 1, S, mp, j, e :: es => if starB e then none else do
    let x ← trE T n S e
    let r ← trM T n S mp (j + 1) es
    pure (.cons x r)
def trC (T : TEnv) : Nat → Sco → List Expr → Option MA
  | 0, _, _ => none
  | _ + 1, _, [] => some .nil
  | n + 1, S, [e] => if tstB e then (trE T n S e).map fun x => .cons x .nil else none
  | _, _, _ => none
def trP (T : TEnv) : Nat → Sco → Option Expr → Option MA
  | 0, _, _ => none
  | _ + 1, _, none => some .nil
  | n + 1, S, some e => (trE T n S e).map fun x => .cons x .nil
def trI (T : TEnv) : Nat → Sco → Bool → Expr → Option MI
  | 0, _, _, _ => none
  | n + 1, S, tp, e => match e with
    | .Call (.Name "range" _) [a] [] _ => if globB S.sc "range" && noStars [a] then (trE T n S a).map .rng1 else none
    | .Call (.Name "range" _) [a, b] [] _ => if globB S.sc "range" && noStars [a, b] then do
      let x ← trE T n S a
      let y ← trE T n S b
      pure (.rng2 x y) else none
    | .Call (.Name "enumerate" _) [a] [] _ => if tp && globB S.sc "enumerate" && noStars [a] then (trE T n S a).map .enum else none
    | .Call (.Name "zip" _) [a, b] [] _ => if tp && globB S.sc "zip" && noStars [a, b] then do
      let x ← trE T n S a
      let y ← trE T n S b
      pure (.zip x y) else none
    | e => (trE T n S e).map .seq
end
/-! ### statements -/
def nameOf : Expr → Option (Str × Pos)
  | .Name x p => some (x, p)
  | _ => none
def namesOf : List Expr → Option (List (Str × Pos))
  | [] => some []
  | e :: es => match nameOf e, namesOf es with
    | some x, some xs => some (x :: xs)
    | _, _ => none
/-- how a, b = x, y is stored: from the right (true), by unpacking (false) -/
def swapKind (sc : Scope) (ts vs : List Expr) : Option Bool :=
  if !(ts.length == 2 || ts.length == 3) || vs.length != ts.length then some false
  else if vs.any starB then some false
  else
    let line := (ts.head?.map (·.pos.line)).getD 0
    let names := ts.filterMap fun
      | .Name id pos => if sc.names.lookup id == some .local && pos.line == line then some id else none
      | _ => none
    if names.length != ts.length || names.eraseDups.length != names.length then some false
    else if vs.all (foldedForSure 8) then some false
    else if vs.all (constantsAlone 8) then none
    else some true
def tupE : Expr → Bool
  | .Tuple .. => true
  | .List .. => true
  | _ => false
/-- may hold an owned object -/
def freeB (T : TEnv) (i : Nat) : Bool := decide (i ∉ T.pm)
mutual
def trS (T : TEnv) : Nat → Sco → Stmt → MS
  | 0, _, _ => .stuck
  | n + 1, S, s => match tapeSet T S s with
    | some (i, q, e) => (match trE T n S e with
      | some m => .tset i q.1 q.2 m
      | none => .stuck)
    | none => match tapeRet T S s with
    | some (i, tp, e) => (match trE T n S e with
      | some m => .rtape i tp m
      | none => .stuck)
    | none => match s with
    | .Pass _ => .pass
    | .Break _ => .brk
    | .Continue _ => .cnt
    | .Return none _ => .retn
    | .Return (some e) _ => match trE T n S e with
      | some m => .ret m
      | none => .stuck
    | .Expr (.Call (.Attribute (.Name x _) "append" ap) [b] [] cp) _ => if !starB b && (ap.endLine == cp.line) then (match slot T S x, trE T n S b with
      | some i, some m => .app i m
      | _, _ => .stuck) else .stuck
    | .Expr (.Call (.Attribute (.Name x _) "extend" ap) [b] [] cp) _ => if !starB b && (ap.endLine == cp.line) then (match slot T S x, trE T n S b with
      | some i, some m => .ext i m
      | _, _ => .stuck) else .stuck
    | .Expr e _ => if isCompB e then .stuck else match trE T n S e with
      | some m => .expr m
      | none => .stuck
    | .Assign [.Name x _] e _ => if storeB S x then (match ixOf T.N x, trE T n S e with
      | some i, some m => if decide (x ∈ T.own) then (if freeB T i then .set i true m else .stuck) else .set i false m
      | _, _ => .stuck) else .stuck
    | .Assign [.Tuple ts _ _] (.Tuple vs _ _) _ => if noStars vs && (swapKind S.sc ts vs).isSome && decide (ts.length = vs.length) && decide (ts.length ≤ lim) then (match trTs T S ts, namesOf ts, trA T n S vs with
      | some is, some xs, some ms => if is.all (freeB T) then .par is (xs.map fun y => decide (y.1 ∈ T.own)) ms else .stuck
      | _, _, _ => .stuck) else .stuck
    | .Assign [.Tuple ts _ _] e _ => if tupE e || isCompB e then .stuck else (match trTs T S ts, trE T n S e with
      | some is, some m => .unp is m
      | _, _ => .stuck)
    | .Assign [.Subscript (.Name x _) k _] v _ => if isCompB v || !plainIx k then .stuck else (match slot T S x, trE T n S k, trE T n S v with
      | some i, some mk, some mv => .put i mk mv
      | _, _, _ => .stuck)
    | .Assign [.Attribute (.Name x _) f _] v _ => if isCompB v then .stuck else (match slot T S x, T.att f, trE T n S v with
      | some i, some (c, .inl j), some mv => .sfld i c j mv
      | _, _, _ => .stuck)
    | .AugAssign (.Name x _) op e _ => if storeB S x then (match ixOf T.N x, opM op, trE T n S e with
      | some i, some o, some m => .aug o i m
      | _, _, _ => .stuck) else .stuck
    | .If c a b _ => if tstB c then (match trE T n S c with
      | some m => .ite m (trB T n S a) (trB T n S b)
      | none => .stuck) else .stuck
    | .For t it b [] _ => if isSetB it then .stuck else (match trT T S t, trI T n S (tupT t) it with
      | some t', some i' => .for_ t' i' (trB T n S b)
      | _, _ => .stuck)
    | .While c b [] _ => if tstB c then (match trE T n S c with
      | some m => .whl m (trB T n S b)
      | none => .stuck) else .stuck
    | _ => .stuck
def trB (T : TEnv) : Nat → Sco → List Stmt → MB
  | 0, _, _ => .cons .stuck .nil
  | _ + 1, _, [] => .nil
  | n + 1, S, s :: ss => .cons (trS T n S s) (trB T n S ss)
end
end VL

set_option Elab.async false
set_option linter.all false
set_option maxRecDepth 100000
/-! V24: small facts of the text. -/
namespace VL
open PySem PySem.Spec PySem.W PyProof.Rows L2 StX

def swapNames (sc : Scope) (ts : List Expr) : List Str := ts.filterMap fun
      | .Name id pos => if sc.names.lookup id == some .local && pos.line == (ts.head?.map (·.pos.line)).getD 0 then some id else none
      | _ => none
theorem swap_go {sc : Scope} {ts vs : List Expr} {env : Env} {k k' : Nat} {p p' : Pos} (hs : env.scope = sc) (hk : sc.kind = .function) {b : Bool} (h : swapKind sc ts vs = some b) : swappedStores [.Tuple ts k p] (.Tuple vs k' p') env = pure (if b then some (swapNames sc ts) else none) := by
  have hb : env.blockKind = .function := by unfold Env.blockKind; rw [hs, hk]; rfl
  subst hs
  unfold swapKind at h
  unfold swappedStores
  simp only [pure_bind, hb]
  by_cases c1 : (!(ts.length == 2 || ts.length == 3) || vs.length != ts.length) = true
  · rw [if_pos c1] at h
    cases h
    simp only [c1, Bool.true_or, if_true]
    rfl
  · have c1' : (!(ts.length == 2 || ts.length == 3) || vs.length != ts.length) = false := by simpa using c1
    rw [if_neg c1] at h
    simp only [c1', Bool.false_or]
    rw [if_neg (by decide)]
    by_cases c2 : vs.any starB = true
    · rw [if_pos c2] at h
      cases h
      exact if_pos c2
    · rw [if_neg c2] at h
      refine (if_neg c2).trans ?_
      simp only at h
      change (if ((swapNames env.scope ts).length != ts.length || (swapNames env.scope ts).eraseDups.length != (swapNames env.scope ts).length) = true then some false else if vs.all (foldedForSure 8) = true then some false else if vs.all (constantsAlone 8) = true then none else some true) = some b at h
      change (if ((swapNames env.scope ts).length != ts.length || (swapNames env.scope ts).eraseDups.length != (swapNames env.scope ts).length) = true then pure none else if vs.all (foldedForSure 8) = true then pure none else if vs.all (constantsAlone 8) = true then _ else pure (some (swapNames env.scope ts))) = _
      by_cases c3 : ((swapNames env.scope ts).length != ts.length || (swapNames env.scope ts).eraseDups.length != (swapNames env.scope ts).length) = true
      · rw [if_pos c3] at h ⊢
        cases h
        rfl
      · rw [if_neg c3] at h ⊢
        by_cases c4 : vs.all (foldedForSure 8) = true
        · rw [if_pos c4] at h ⊢
          cases h
          rfl
        · rw [if_neg c4] at h ⊢
          by_cases c5 : vs.all (constantsAlone 8) = true
          · rw [if_pos c5] at h
            cases h
          · rw [if_neg c5] at h ⊢
            cases h
            rfl
theorem swap_names {sc : Scope} {ts vs : List Expr} (h : swapKind sc ts vs = some true) : (swapNames sc ts).length = ts.length ∧ (swapNames sc ts).eraseDups.length = (swapNames sc ts).length ∧ (ts.length = 2 ∨ ts.length = 3) ∧ vs.length = ts.length := by
  unfold swapKind at h
  split at h
  · cases h
  · rename_i c1
    split at h
    · cases h
    · simp only at h
      split at h
      · cases h
      · rename_i c3
        have c3 : ¬ ((swapNames sc ts).length != ts.length || (swapNames sc ts).eraseDups.length != (swapNames sc ts).length) = true := c3
        simp at c1 c3
        exact ⟨c3.1, c3.2, by omega, by omega⟩
theorem starOf_some {e e' : Expr} (h : starOf e = some e') : ∃ p, e = .Starred e' p := by
  unfold starOf at h
  split at h
  · cases h
    exact ⟨_, rfl⟩
  · cases h
theorem starOf_none {e : Expr} (h : starOf e = none) : starB e = false := by
  unfold starOf at h
  split at h
  · cases h
  · rename_i hn
    unfold starB
    split
    · rename_i e' p
      exact absurd rfl (hn e' p)
    · rfl
theorem starEach_cons {e : Expr} {es : List Expr} {env : Env} (h : starB e = false) : starEach (e :: es) env = (false, eval e env) :: starEach es env := by
  cases e <;> first | rfl | cases h
theorem starEach_star : ∀ {es : List Expr} {env : Env}, noStars es = true → (starEach es env).any (·.1) = false
  | [], _, _ => rfl
  | e :: es, env, h => by
    unfold noStars at h
    rw [List.all_cons, Bool.and_eq_true] at h
    have h1 : starB e = false := by simpa using h.1
    rw [starEach_cons h1, List.any_cons, starEach_star h.2]
    rfl
theorem backTo_any (pos : Pos) (l : List (Bool × Sem Value)) : (backTo pos l).any (·.1) = l.any (·.1) := by
  unfold backTo
  rw [List.any_map]
  rfl
theorem back_noStars {es : List Expr} {env : Env} {pos : Pos} (h : noStars es = true) : (backTo pos (starEach es env)).any (·.1) = false := by
  rw [backTo_any, starEach_star h]
theorem star_one {e : Expr} {env : Env} (h : starB e = false) : starEach [e] env = [(false, eval e env)] := starEach_cons h
theorem attrBase {o : Expr} {f : Str} {env : Env} (h : noSuper o = true) : attributeBase o f env (eval o env) = eval o env := by
  unfold attributeBase
  split
  · cases h
  · rfl
theorem plainIx_ok {b : Expr} (h : plainIx b = true) : PlainIx b := by
  intro o i
  cases b <;> first | rfl | cases h
theorem noSet_marks {op : CmpOp} {b : Expr} (h : isSetB b = false) : behindInMarks op b = false := by
  cases b <;> first | rfl | cases h
theorem noSet_last {op op' : CmpOp} {b c : Expr} (h : isSetB c = false) : lastMarks [op, op'] [b, c] = false := by
  show behindInMarks op' c = false
  exact noSet_marks h
theorem noSet_fold {it : Expr} {env : Env} (h : isSetB it = false) : ∀ x, foldedSetIterable it env x = pure x := by
  intro x
  cases it <;> first | rfl | cases h
theorem noComp_sw {e : Expr} {t : Option Expr} {l : Nat} {env : Env} (h : isCompB e = false) : swapsWith e t l env = pure false := by
  cases e <;> first | rfl | cases h
theorem tst_val {e : Expr} {env : Env} (h : tstB e = true) (h1 : ∀ op vs p, e ≠ .BoolOp op vs p) (h2 : ∀ a p, e ≠ .UnaryOp .Not a p) (h3 : ∀ a o c p, e ≠ .Compare a o c p) : ∀ whole, isTrue e env whole = (do let v ← whole; standAt e.pos; holding [v] (truthy v)) := by
  intro whole
  cases e with
  | BoolOp op vs p => exact absurd rfl (h1 op vs p)
  | UnaryOp op a p => cases op <;> first | exact absurd rfl (h2 a p) | cases h
  | Compare a o c p => exact absurd rfl (h3 a o c p)
  | IfExp => cases h
  | _ => rfl
theorem visB_ok {sc : Scope} {x : Str} (h : visB sc x = true) : Vis sc x := by
  unfold visB at h
  unfold Vis
  split at h
  · rename_i e; exact .inl e
  · rename_i e; exact .inr (.inl e)
  · rename_i e; exact .inr (.inr e)
  · cases h
theorem ixOf_ok {N : List Str} {x : Str} {i : Nat} (h : ixOf N x = some i) : N[i]? = some x := by
  unfold ixOf at h
  simp only at h
  split at h
  · rename_i e
    cases h
    exact e
  · cases h
theorem plainName_ok {x : Str} (h : plainName x = true) : (x == ("__debug__" : Str)) = false ∧ (x == ("__classdict__" : Str)) = false := by
  unfold plainName at h
  rw [Bool.and_eq_true] at h
  exact ⟨by simpa using h.1, by simpa using h.2⟩
theorem slot_ok {T : TEnv} {S : Sco} {x : Str} {i : Nat} (h : slot T S x = some i) : T.N[i]? = some x ∧ Vis S.sc x ∧ (x == ("__debug__" : Str)) = false ∧ (x == ("__classdict__" : Str)) = false := by
  unfold slot at h
  split at h
  · rename_i c
    rw [Bool.and_eq_true] at c
    exact ⟨ixOf_ok h, visB_ok c.1, plainName_ok c.2⟩
  · cases h
theorem globB_ok {sc : Scope} {x : Str} (h : globB sc x = true) : sc.names.lookup x = some .globalImplicit := by
  unfold globB at h
  split at h
  · assumption
  · cases h
end VL

set_option Elab.async false
set_option linter.all false
set_option maxRecDepth 100000
/-! V25: the translation of expressions is sound. -/
namespace VL
open PySem PySem.Spec PySem.W PyProof.Rows L2 StX

/-- no exception leaves a def -/
def CX0 : CXT := fun _ _ _ _ _ _ => False
theorem passes0 {X : Cx} {E : XK} : Passes CX0 X E := fun _ _ _ _ _ _ _ h => h.elim
/-- a def is what m says -/
structure FnF (G : Program) (w : World) (K : Frag) (mg : Str → Option Value) (base : Heap) (cls : Nat → Option (Addr × List Str)) (m : MFn) (n : Nat) (dfl : List D) (j : Nat) (f : Addr) : Prop where
  nd : m.mp.Nodup
  len : ∀ ds, ds.length ≠ n → m.run ds = .bad
  kp : keepIn K (.ref f) = true
  ok : ∃ fd ps, FnOk G w K mg base CX0 j f fd ps (spV ⟨G, w, K, cls⟩ m n) ∧ Binds K fd ps [] ∧ (dfl ≠ [] → ∃ dvs ds, Binds K fd ps ds ∧ Vals dvs ds ∧ ∀ F, AtL ⟨G, w, K, cls⟩ F dfl dvs)
theorem FnF.mono {G : Program} {w : World} {K : Frag} {mg : Str → Option Value} {base : Heap} {cls : Nat → Option (Addr × List Str)} {m : MFn} {n : Nat} {dfl : List D} {j k : Nat} {f : Addr} (h : FnF G w K mg base cls m n dfl j f) (hj : j ≤ k) : FnF G w K mg base cls m n dfl k f := by
  obtain ⟨fd, ps, h1, h2, h3⟩ := h.ok
  exact ⟨h.nd, h.len, h.kp, fd, ps, h1.mono hj, h2, h3⟩
def btNames : List Str := ["len", "abs", "int", "tuple", "list", "sorted", "sum", "all", "any", "min", "max", "isinstance", "range", "enumerate", "zip", "bool", "str"]
structure COk (X : Cx) (cls : Nat → Option (Addr × List Str)) (T : TEnv) (S : Sco) (Φ : Fns) (j : Nat) : Prop where
  calm : X.calm = true
  hN : X.N = T.N
  nd : T.N.Nodup
  sc : X.env.scope = S.sc
  kd : S.sc.kind = .function
  st : ∀ x, storeB S x = true → Loc S.sc x ∧ (X.fn x = true ∨ S.sc.names.lookup x = some .local)
  ok : POk (pmOf X cls)
  kok : KOk X.K cls
  room : Room (j + 1) X.A
  num : ∀ x i, T.num x = some i → ∃ t, X.mg x = some (.int i t)
  fn : ∀ x f n dfl, T.fn x = some (f, n, dfl) → f < T.lim → (Φ f).mp = T.mp f ∧ ∃ a, X.mg x = some (.ref a) ∧ FnF X.prog X.w X.K X.mg X.base cls (Φ f) n dfl j a
  cl : ∀ x c f, T.cl x = some (c, f) → c ≠ 0 ∧ c ≠ 99 ∧ ∃ C ns, X.mg x = some (.ref C) ∧ cls c = some (C, ns) ∧ (f < T.lim → (Φ f).mp = [0] ∧ (Φ f).fresh = false ∧ ∃ a n, Mk X.K C a ∧ FnF X.prog X.w X.K X.mg X.base cls (Φ f) n [] j a)
  att : ∀ f c s, T.att f = some (c, s) → c ≠ 0 ∧ c ≠ 99 ∧ ∃ C ns, cls c = some (C, ns) ∧ Cls X.K C ∧ (∀ i, s = .inl i → ns[i]? = some f ∧ ns.Nodup ∧ NoAttr X.K C f) ∧ ∀ g, s = .inr g → g < T.lim → ∃ pr a, PropOf X.K C f pr a ∧ FnF X.prog X.w X.K X.mg X.base cls (Φ g) 1 [] j a
  bt : ∀ x ∈ btNames, X.mg x = none
section
variable {X : Cx} {cls : Nat → Option (Addr × List Str)} {T : TEnv} {S : Sco} {Φ : Fns} {j : Nat}
theorem COk.units (c : COk X cls T S Φ j) : X.A.units + 64 < cLine := c.room.units
theorem COk.gl (c : COk X cls T S Φ j) {x : Str} (h : globB S.sc x = true) : Gl X x := by
  show X.env.scope.names.lookup x = _
  rw [c.sc]
  exact globB_ok h
theorem COk.blk (c : COk X cls T S Φ j) {scope : Scope} (hk : scope.kind = .function) (s : Shared) (H : Hp) (C : Addr) (cl : List (Str × Addr)) (fp : List Addr) : COk (X.blk s H scope (compEnvC scope cl C X.env) fp) cls T (S.blk scope) Φ j where
  calm := c.calm
  hN := c.hN
  nd := c.nd
  sc := by
    show relS scope X.env.scope = relS scope S.sc
    rw [c.sc]
  kd := hk
  st := fun x h => by
    unfold storeB at h
    split at h
    · rename_i e
      have e2 : (S.blk scope).sc.names.lookup x = some .local := lookup_relS_keep (by decide) e
      exact ⟨.inl e2, .inr e2⟩
    · rename_i e
      have e : scope.names.lookup x = some .cell := e
      have e2 : (S.blk scope).sc.names.lookup x = some .cell := lookup_relS_keep (by decide) e
      refine ⟨.inr e2, .inl ?_⟩
      show (scope.names.lookup x == some .cell) = true
      rw [e]
      rfl
    · cases h
  ok := c.ok
  kok := c.kok
  room := c.room
  num := c.num
  fn := c.fn
  cl := c.cl
  att := c.att
  bt := c.bt
theorem evM_args {mp : List Nat} : ∀ {es : MA} {j : Nat} {ρ : Ev} {x : List Rv × Ev}, evM Φ mp j es ρ = .ok x → ∀ (i : Nat) r, j + i ∉ mp → x.1[i]? = some r → ∃ d, r = .sh d
  | .nil, j, ρ, x, h, i, r, hi, e => by
    rw [evM] at h
    cases h
    simp at e
  | .cons a es, j, ρ, x, h, i, r, hi, e => by
    rw [evM] at h
    split at h
    · rename_i hj
      unfold mOwn at h
      cases e1 : ev Φ a ρ with
      | bad => simp only [bind, Res.bind, e1] at h; cases h
      | ex d => simp only [bind, Res.bind, e1] at h; cases h
      | ok y =>
        simp only [bind, Res.bind, e1] at h
        obtain ⟨r0, ρ0⟩ := y
        cases r0 with
        | sh d => cases h
        | fr d => cases h
        | ow k =>
          simp only at h
          cases e2 : evM Φ mp (j + 1) es ρ0 with
          | bad => simp only [e2] at h; cases h
          | ex d => simp only [e2] at h; cases h
          | ok y =>
            simp only [e2] at h
            cases h
            cases i with
            | zero => exact absurd hj (by simpa using hi)
            | succ i => exact evM_args e2 i r (by rw [show j + 1 + i = j + (i + 1) by omega]; exact hi) (by simpa using e)
    · unfold mCons at h
      cases e1 : fFz (ev Φ a) ρ with
      | bad => simp only [bind, Res.bind, e1] at h; cases h
      | ex d => simp only [bind, Res.bind, e1] at h; cases h
      | ok y =>
        simp only [bind, Res.bind, e1] at h
        cases e2 : evM Φ mp (j + 1) es y.2 with
        | bad => simp only [e2] at h; cases h
        | ex d => simp only [e2] at h; cases h
        | ok z =>
          simp only [e2] at h
          cases h
          cases i with
          | zero =>
            simp at e
            exact ⟨_, e.symm⟩
          | succ i => exact evM_args e2 i r (by rw [show j + 1 + i = j + (i + 1) by omega]; exact hi) (by simpa using e)
  | .star a es, j, ρ, x, h, i, r, hi, e => by
    rw [evM] at h
    cases h
end
end VL

set_option Elab.async false
set_option linter.all false
set_option maxRecDepth 100000
set_option maxHeartbeats 4000000
/-! V26: the translation of expressions is sound. -/
namespace VL
open PySem PySem.Spec PySem.W PyProof.Rows L2 StX

section
variable {X : Cx} {cls : Nat → Option (Addr × List Str)} {T : TEnv} {S : Sco} {Φ : Fns} {j : Nat}
theorem trTs_ok (c : COk X cls T S Φ j) : ∀ {es : List Expr} {is : List Nat}, trTs T S es = some is → PGs X es (gList is) ∧ (assignEach es X.env).length = is.length ∧ (assignEach es X.env).findIdx? (·.1) = none
  | [], is, h => by
    simp [trTs] at h
    subst h
    exact ⟨pgs_nil, rfl, rfl⟩
  | .Name x p :: es, is, h => by
    rw [trTs] at h
    split at h
    · rename_i hs
      split at h
      · rename_i i is' h1 h2
        cases h
        obtain ⟨g1, g2, g3⟩ := trTs_ok c h2
        obtain ⟨l1, l2⟩ := c.st x hs
        refine ⟨pgs_cons (pg_name (by rw [c.hN]; exact c.nd) (by rw [c.hN]; exact ixOf_ok h1) (by rw [c.sc]; exact l1) (by rw [c.sc]; exact l2)) g1 rfl, ?_, ?_⟩
        · show (assignEach es X.env).length + 1 = _
          rw [g2]
          rfl
        · show List.findIdx? (fun x => x.1) ((false, assign (.Name x p) X.env) :: assignEach es X.env) = none
          rw [List.findIdx?_cons, g3]
          rfl
      · cases h
    · cases h
  | .BoolOp .. :: _, _, h | .NamedExpr .. :: _, _, h | .BinOp .. :: _, _, h | .UnaryOp .. :: _, _, h | .Lambda .. :: _, _, h | .IfExp .. :: _, _, h | .Dict .. :: _, _, h | .Set .. :: _, _, h | .ListComp .. :: _, _, h | .SetComp .. :: _, _, h | .DictComp .. :: _, _, h | .GeneratorExp .. :: _, _, h
  | .Await .. :: _, _, h | .Yield .. :: _, _, h | .YieldFrom .. :: _, _, h | .Compare .. :: _, _, h | .Call .. :: _, _, h | .FormattedValue .. :: _, _, h | .JoinedStr .. :: _, _, h | .Constant .. :: _, _, h | .Attribute .. :: _, _, h | .Subscript .. :: _, _, h | .Starred .. :: _, _, h | .List .. :: _, _, h | .Tuple .. :: _, _, h | .Slice .. :: _, _, h => by simp [trTs] at h
theorem trT_ok (c : COk X cls T S Φ j) {tg : Expr} {t : MT} (h : trT T S tg = some t) : PG X tg (gT X.K t) := by
  unfold trT at h
  split at h
  · rename_i x p
    split at h
    · rename_i hs
      cases h1 : ixOf T.N x with
      | none => rw [h1] at h; cases h
      | some i =>
        rw [h1] at h
        cases h
        obtain ⟨l1, l2⟩ := c.st x hs
        exact pg_name (by rw [c.hN]; exact c.nd) (by rw [c.hN]; exact ixOf_ok h1) (by rw [c.sc]; exact l1) (by rw [c.sc]; exact l2)
    · cases h
  · rename_i es k p
    cases h1 : trTs T S es with
    | none => rw [h1] at h; cases h
    | some is =>
      rw [h1] at h
      cases h
      obtain ⟨g1, g2, g3⟩ := trTs_ok c h1
      exact pg_tup c.calm g1 g2 g3
  · cases h
theorem slotsIn_ok {t : MT} {own : List Nat} (h : slotsIn t own = true) : ∀ i ∈ t.slots, i ∈ own := fun i hi => of_decide_eq_true (List.all_eq_true.mp h i hi)
/-- a class as it is written -/
theorem tyOf_ok (c : COk X cls T S Φ j) {e : Expr} {ty : Ty} (h : tyOf T S e = some ty) : ∃ v u, TyE X cls e ty v u ∧ starB e = false := by
  unfold tyOf at h
  split at h
  · rename_i x p
    split at h
    · rename_i hg
      rw [Bool.and_eq_true] at hg
      obtain ⟨n1, n2⟩ := plainName_ok hg.2
      have G : ∀ (T0 : String), x ∈ btNames → x ≠ "__name__" → bootBuiltins x = some (.type T0) → PE X (.Name x p) (tC (.ty T0)) := fun T0 hx hn hb => pe_bltn (c.gl hg.1) (c.bt x hx) hb rfl hn n1
      split at h
      · rename_i e; subst e; cases h; exact ⟨_, _, ⟨G "int" (by decide) (by decide) (by decide +kernel), .ty _, rfl⟩, rfl⟩
      · split at h
        · rename_i e; subst e; cases h; exact ⟨_, _, ⟨G "bool" (by decide) (by decide) (by decide +kernel), .ty _, rfl⟩, rfl⟩
        · split at h
          · rename_i e; subst e; cases h; exact ⟨_, _, ⟨G "str" (by decide) (by decide) (by decide +kernel), .ty _, rfl⟩, rfl⟩
          · split at h
            · rename_i e; subst e; cases h; exact ⟨_, _, ⟨G "tuple" (by decide) (by decide) (by decide +kernel), .ty _, rfl⟩, rfl⟩
            · split at h
              · rename_i e; subst e; cases h; exact ⟨_, _, ⟨G "list" (by decide) (by decide) (by decide +kernel), .ty _, rfl⟩, rfl⟩
              · cases h1 : T.cl x with
                | none => rw [h1] at h; cases h
                | some y =>
                  rw [h1] at h
                  cases h
                  obtain ⟨z1, z2, C, ns, hm, hc, _⟩ := c.cl x y.1 y.2 h1
                  exact ⟨.ref C, .ref C, ⟨pe_glob (c.gl hg.1) hm rfl n1, .own C, by simp [tyVal, hc]⟩, rfl⟩
    · cases h
  · cases h
/-- a built-in, called -/
theorem biOf_ok (c : COk X cls T S Φ j) {x : Str} {b : BI} {P : Pr} {e : Expr} {es : List Expr} {fo : FR} {p0 pos : Pos} (h : biOf x = some b) (hg : globB S.sc x = true) (hn : noStars (e :: es) = true) (ha : PA X (e :: es) (tR (pmOf X cls) P fo)) : PE X (.Call (.Name x p0) (e :: es) [] pos) (tE (pmOf X cls) P (fBi b fo)) := by
  have u := c.units
  have s1 : starEach (e :: es) X.env = (false, eval e X.env) :: starEach es X.env := starEach_cons (by unfold noStars at hn; rw [List.all_cons, Bool.and_eq_true] at hn; simpa using hn.1)
  have s2 : (backTo pos (starEach es X.env)).any (·.1) = false := back_noStars (by unfold noStars at hn ⊢; rw [List.all_cons, Bool.and_eq_true] at hn; exact hn.2)
  unfold biOf at h
  split at h
  · rename_i q; subst q; cases h; exact e_biB (opr_len (cls := cls)) (c.gl hg) (c.bt _ (by decide)) (by decide +kernel) ha (by decide) (by decide) s1 s2
  split at h
  · rename_i q; subst q; cases h; exact e_biB (opr_abs (cls := cls)) (c.gl hg) (c.bt _ (by decide)) (by decide +kernel) ha (by decide) (by decide) s1 s2
  split at h
  · rename_i q; subst q; cases h; exact e_biT (opr_int (cls := cls)) (c.gl hg) (c.bt _ (by decide)) (by decide +kernel) ha (by decide) (by decide) s1 s2
  split at h
  · rename_i q; subst q; cases h; exact e_biT (opr_tuple (cls := cls)) (c.gl hg) (c.bt _ (by decide)) (by decide +kernel) ha (by decide) (by decide) s1 s2
  split at h
  · rename_i q; subst q; cases h; exact e_biT (opr_list (cls := cls) c.calm) (c.gl hg) (c.bt _ (by decide)) (by decide +kernel) ha (by decide) (by decide) s1 s2
  split at h
  · rename_i q; subst q; cases h; exact e_biB (opr_sorted (cls := cls) u c.calm) (c.gl hg) (c.bt _ (by decide)) (by decide +kernel) ha (by decide) (by decide) s1 s2
  split at h
  · rename_i q; subst q; cases h; exact e_biB (opr_sum (cls := cls) c.calm) (c.gl hg) (c.bt _ (by decide)) (by decide +kernel) ha (by decide) (by decide) s1 s2
  split at h
  · rename_i q; subst q; cases h; exact e_biB (opr_all (cls := cls) c.calm) (c.gl hg) (c.bt _ (by decide)) (by decide +kernel) ha (by decide) (by decide) s1 s2
  split at h
  · rename_i q; subst q; cases h; exact e_biB (opr_any (cls := cls) c.calm) (c.gl hg) (c.bt _ (by decide)) (by decide +kernel) ha (by decide) (by decide) s1 s2
  split at h
  · rename_i q; subst q; cases h; exact e_biB (opr_min (cls := cls) u c.calm) (c.gl hg) (c.bt _ (by decide)) (by decide +kernel) ha (by decide) (by decide) s1 s2
  split at h
  · rename_i q; subst q; cases h; exact e_biB (opr_max (cls := cls) u c.calm) (c.gl hg) (c.bt _ (by decide)) (by decide +kernel) ha (by decide) (by decide) s1 s2
  cases h
end
end VL

set_option Elab.async false
set_option linter.all false
set_option maxRecDepth 100000
set_option maxHeartbeats 4000000
/-! V27: the translation of expressions is sound. -/
namespace VL
open PySem PySem.Spec PySem.W PyProof.Rows L2 StX

section
variable {cls : Nat → Option (Addr × List Str)} {T : TEnv} {Φ : Fns} {j : Nat}
def SE (cls : Nat → Option (Addr × List Str)) (T : TEnv) (Φ : Fns) (j n : Nat) : Prop := ∀ (X : Cx) (S : Sco) (P : Pr), COk X cls T S Φ j → ∀ e m, trE T n S e = some m →
  PE X e (tE (pmOf X cls) P (ev Φ m)) ∧ (tstB e = true → PT X e (tT (pmOf X cls) P (fTest (ev Φ m)))) ∧ (∀ op vs p, e = .BoolOp op vs p → PW X e (tT (pmOf X cls) P (fTest (ev Φ m))))
def SA (cls : Nat → Option (Addr × List Str)) (T : TEnv) (Φ : Fns) (j n : Nat) : Prop := ∀ (X : Cx) (S : Sco) (P : Pr), COk X cls T S Φ j → ∀ es m, trA T n S es = some m →
  PA X es (tA (pmOf X cls) P (evA Φ m)) ∧ (noStars es = true → PA X es (tR (pmOf X cls) P (evO Φ m)))
def SM (cls : Nat → Option (Addr × List Str)) (T : TEnv) (Φ : Fns) (j n : Nat) : Prop := ∀ (X : Cx) (S : Sco) (P : Pr), COk X cls T S Φ j → ∀ mp i es m, trM T n S mp i es = some m → PA X es (tR (pmOf X cls) P (evM Φ mp i m))
def SC (cls : Nat → Option (Addr × List Str)) (T : TEnv) (Φ : Fns) (j n : Nat) : Prop := ∀ (X : Cx) (S : Sco) (P : Pr), COk X cls T S Φ j → ∀ es m, trC T n S es = some m → PTs X es (tT (pmOf X cls) P (evC Φ m))
def SP' (cls : Nat → Option (Addr × List Str)) (T : TEnv) (Φ : Fns) (j n : Nat) : Prop := ∀ (X : Cx) (S : Sco) (P : Pr), COk X cls T S Φ j → ∀ o m, trP T n S o = some m → PO X o (tO (pmOf X cls) P (evP Φ m))
def SI (cls : Nat → Option (Addr × List Str)) (T : TEnv) (Φ : Fns) (j n : Nat) : Prop := ∀ (X : Cx) (S : Sco) (P : Pr), COk X cls T S Φ j → ∀ tg e m, trI T n S (tupT tg) e = some m → PI X tg e (tI (pmOf X cls) P (evI Φ m))
structure Snd (cls : Nat → Option (Addr × List Str)) (T : TEnv) (Φ : Fns) (j n : Nat) : Prop where
  e : SE cls T Φ j n
  a : SA cls T Φ j n
  m : SM cls T Φ j n
  c : SC cls T Φ j n
  p : SP' cls T Φ j n
  i : SI cls T Φ j n
theorem noStars_cons {e : Expr} {es : List Expr} : noStars (e :: es) = true ↔ starB e = false ∧ noStars es = true := by
  unfold noStars
  rw [List.all_cons, Bool.and_eq_true]
  simp
theorem snd_a {n : Nat} (s : Snd cls T Φ j n) : SA cls T Φ j (n + 1) := by
  intro X S P c es m h
  cases es with
  | nil =>
    rw [trA] at h
    cases h
    exact ⟨a_nil, fun _ => o_nil⟩
  | cons e es =>
    rw [trA] at h
    split at h
    · rename_i e' he
      obtain ⟨p, rfl⟩ := starOf_some he
      simp only [Option.bind_eq_bind, Option.bind_eq_some_iff, pure, Option.some.injEq] at h
      obtain ⟨x, h1, r, h2, rfl⟩ := h
      refine ⟨?_, fun q => by rw [noStars_cons] at q; cases q.1⟩
      rw [evA]
      exact a_star c.ok (s.e X S P c _ _ h1).1 (s.a X S P c _ _ h2).1
    · rename_i he
      have he := starOf_none he
      simp only [Option.bind_eq_bind, Option.bind_eq_some_iff, pure, Option.some.injEq] at h
      obtain ⟨x, h1, r, h2, rfl⟩ := h
      refine ⟨?_, fun q => ?_⟩
      · rw [evA]
        exact a_cons c.ok (s.e X S P c _ _ h1).1 (s.a X S P c _ _ h2).1 (starEach_cons he)
      · rw [noStars_cons] at q
        rw [evO]
        exact o_cons c.ok (s.e X S P c _ _ h1).1 ((s.a X S P c _ _ h2).2 q.2) (starEach_cons he)
theorem snd_m {n : Nat} (s : Snd cls T Φ j n) : SM cls T Φ j (n + 1) := by
  intro X S P c mp i es m h
  cases es with
  | nil =>
    rw [trM] at h
    cases h
    rw [evM]
    exact o_nil
  | cons e es' =>
    rw [trM] at h
    split at h
    · cases h
    · rename_i he
      have he : starB e = false := by simpa using he
      simp only [Option.bind_eq_bind, Option.bind_eq_some_iff, pure, Option.some.injEq] at h
      obtain ⟨x, h1, r, h2, rfl⟩ := h
      rw [evM]
      split
      · exact m_own (s.e X S P c _ _ h1).1 (s.m X S P c _ _ _ _ h2) (starEach_cons he)
      · exact m_cons c.ok (s.e X S P c _ _ h1).1 (s.m X S P c _ _ _ _ h2) (starEach_cons he)
theorem snd_c {n : Nat} (s : Snd cls T Φ j n) : SC cls T Φ j (n + 1) := by
  intro X S P c es m h
  match es, h with
  | [], h =>
    rw [trC] at h
    cases h
    rw [evC]
    refine ⟨fun pins s σ H Q I ⟨F, ρ, fp, R, k⟩ => pts_nil.run pins s σ H Q I (k F H fp Ext.refl R)⟩
  | [e], h =>
    rw [trC] at h
    split at h
    · rename_i ht
      cases h1 : trE T n S e with
      | none => rw [h1] at h; cases h
      | some x =>
        rw [h1] at h
        cases h
        rw [evC]
        exact pts_one ((s.e X S P c _ _ h1).2.1 ht)
    · cases h
  | _ :: _ :: _, h =>
    simp [trC] at h
theorem snd_p {n : Nat} (s : Snd cls T Φ j n) : SP' cls T Φ j (n + 1) := by
  intro X S P c o m h
  cases o with
  | none =>
    rw [trP] at h
    cases h
    rw [evP]
    exact p_none
  | some e =>
    rw [trP] at h
    cases h1 : trE T n S e with
    | none => rw [h1] at h; cases h
    | some x =>
      rw [h1] at h
      cases h
      rw [evP]
      exact p_some (s.e X S P c _ _ h1).1
theorem tupT_ok {tg : Expr} (h : tupT tg = true) : ∃ es k p, tg = .Tuple es k p := by
  cases tg <;> first | exact ⟨_, _, _, rfl⟩ | cases h
theorem snd_i {n : Nat} (s : Snd cls T Φ j n) : SI cls T Φ j (n + 1) := by
  intro X S P c tg e m h
  unfold trI at h
  split at h
  · rename_i p a q
    split at h
    · rename_i hc
      rw [Bool.and_eq_true, noStars_cons] at hc
      cases h1 : trE T n S a with
      | none => rw [h1] at h; cases h
      | some x =>
        rw [h1] at h
        cases h
        rw [evI]
        exact i_rng1 (s.e X S P c _ _ h1).1 (c.gl hc.1) (c.bt _ (by decide)) (star_one hc.2.1)
    · cases h
  · split at h
    · rename_i hc
      rw [Bool.and_eq_true, noStars_cons, noStars_cons] at hc
      simp only [Option.bind_eq_bind, Option.bind_eq_some_iff, pure, Option.some.injEq] at h
      obtain ⟨x, h1, y, h2, rfl⟩ := h
      rw [evI]
      exact i_rng2 (s.e X S P c _ _ h1).1 (s.e X S P c _ _ h2).1 (c.gl hc.1) (c.bt _ (by decide)) (by rw [starEach_cons hc.2.1, star_one hc.2.2.1]) (star_one hc.2.2.1)
    · cases h
  · rename_i p a q
    split at h
    · rename_i hc
      rw [Bool.and_eq_true, Bool.and_eq_true, noStars_cons] at hc
      obtain ⟨es, k, p', rfl⟩ := tupT_ok hc.1.1
      cases h1 : trE T n S a with
      | none => rw [h1] at h; cases h
      | some x =>
        rw [h1] at h
        cases h
        rw [evI]
        exact i_enum c.ok (s.e X S P c _ _ h1).1 (c.gl hc.1.2) (c.bt _ (by decide)) (star_one hc.2.1)
    · cases h
  · split at h
    · rename_i hc
      rw [Bool.and_eq_true, Bool.and_eq_true, noStars_cons, noStars_cons] at hc
      obtain ⟨es, k, p', rfl⟩ := tupT_ok hc.1.1
      simp only [Option.bind_eq_bind, Option.bind_eq_some_iff, pure, Option.some.injEq] at h
      obtain ⟨x, h1, y, h2, rfl⟩ := h
      rw [evI]
      exact i_zip c.ok (s.e X S P c _ _ h1).1 (s.e X S P c _ _ h2).1 (c.gl hc.1.2) (c.bt _ (by decide)) (by rw [starEach_cons hc.2.1, star_one hc.2.2.1]) (star_one hc.2.2.1)
    · cases h
  · cases h1 : trE T n S e with
    | none => rw [h1] at h; cases h
    | some x =>
      rw [h1] at h
      cases h
      rw [evI]
      exact i_seq c.ok (s.e X S P c _ _ h1).1
end
end VL

set_option Elab.async false
set_option linter.all false
set_option maxRecDepth 100000
set_option maxHeartbeats 4000000
/-! V28: the translation of expressions is sound, the main step. -/
namespace VL
open PySem PySem.Spec PySem.W PyProof.Rows L2 StX

section
variable {cls : Nat → Option (Addr × List Str)} {T : TEnv} {Φ : Fns} {j : Nat}
theorem tri {X : Cx} {P : Pr} {e : Expr} {f : FE} (he : PE X e (tE (pmOf X cls) P f)) (h1 : ∀ op vs p, e ≠ .BoolOp op vs p) (h2 : ∀ a p, e ≠ .UnaryOp .Not a p) (h3 : ∀ a o c p, e ≠ .Compare a o c p) :
    PE X e (tE (pmOf X cls) P f) ∧ (tstB e = true → PT X e (tT (pmOf X cls) P (fTest f))) ∧ (∀ op vs p, e = .BoolOp op vs p → PW X e (tT (pmOf X cls) P (fTest f))) :=
  ⟨he, fun ht => t_val he (tst_val ht h1 h2 h3), fun op vs p q => absurd q (h1 op vs p)⟩
theorem opM_ok {op : Operator} {o : MOp} (h : opM op = some o) : op = opOf o := by
  cases op <;> simp [opM] at h <;> subst h <;> rfl
theorem cmpM_ok {op : CmpOp} {o : COp} (h : cmpM op = some o) : op = cmpOf o := by
  cases op <;> simp [cmpM] at h <;> subst h <;> rfl
theorem map_some' {α β : Type} {f : α → β} {o : Option α} {b : β} (h : o.map f = some b) : ∃ a, o = some a ∧ b = f a := by
  cases o with
  | none => cases h
  | some a => cases h; exact ⟨a, rfl, rfl⟩
theorem pts_gen {X : Cx} {P : Pr} {es : List Expr} {f : FC} (h : PTs X es (tT (pmOf X cls) P f)) : PTs X es (tT (pmOf X cls) P f) := h
/-- a call of a def, of a class, of a built-in -/
theorem call_ok {X : Cx} {S : Sco} {P : Pr} {n : Nat} (s : Snd cls T Φ j n) (c : COk X cls T S Φ j) {x : Str} {a : Expr} {as : List Expr} {p pos : Pos} {m : ME} (hc : (globB S.sc x && plainName x && noStars (a :: as)) = true)
    (h : (match T.fn x with
        | some (f, k, dfl) => if f < T.lim && ((as.length + 1 == k) || (as.length + 1 + dfl.length == k)) then (do
            let es ← trM T n S (T.mp f) 0 (a :: as)
            pure (.call f es (if as.length + 1 == k then [] else dfl)))
          else none
        | none => match T.cl x with
          | some (c, f) => if f < T.lim then (trA T n S (a :: as)).map (.new c f) else none
          | none => match biOf x with
            | some b => (trA T n S (a :: as)).map (.bi b)
            | none => none) = some m) : PE X (.Call (.Name x p) (a :: as) [] pos) (tE (pmOf X cls) P (ev Φ m)) := by
  rw [Bool.and_eq_true, Bool.and_eq_true] at hc
  obtain ⟨⟨hg, hp⟩, hs⟩ := hc
  obtain ⟨n1, n2⟩ := plainName_ok hp
  have hs' := noStars_cons.mp hs
  have s1 : starEach (a :: as) X.env = (false, eval a X.env) :: starEach as X.env := starEach_cons hs'.1
  have s2 : (backTo pos (starEach as X.env)).any (·.1) = false := back_noStars hs'.2
  split at h
  · rename_i f k dfl hf
    split at h
    · rename_i hk
      rw [Bool.and_eq_true] at hk
      have hlim : f < T.lim := of_decide_eq_true hk.1
      simp only [Option.bind_eq_bind, Option.bind_eq_some_iff, pure, Option.some.injEq] at h
      obtain ⟨es, h1, rfl⟩ := h
      obtain ⟨hmp, ad, hm, F⟩ := c.fn x f k dfl hf hlim
      obtain ⟨fd, ps, F1, F2, F3⟩ := F.ok
      have ha : PA X (a :: as) (tR (pmOf X cls) P (evM Φ (Φ f).mp 0 es)) := by
        rw [hmp]
        exact s.m X S P c _ _ _ _ h1
      have hr : Room j X.A := c.room.mono (Nat.le_succ _)
      have args : ∀ ρ x, evM Φ (Φ f).mp 0 es ρ = .ok x → Args (Φ f).mp x.1 := fun ρ x h i r hi e => evM_args h i r (by simpa using hi) e
      rw [ev]
      split
      · exact e_call F1 hr (c.gl hg) hm F.kp F2 .nil passes0 F.nd F.len (fun _ => .nil) args ha n1 s1 s2 (E := fun _ _ _ => False)
      · rename_i hne
        have hd : dfl ≠ [] := fun z => by
          subst z
          simp at hk hne
          exact hne hk.2
        obtain ⟨dvs, ds, F4, F5, F6⟩ := F3 hd
        exact e_call F1 hr (c.gl hg) hm F.kp F4 F5 passes0 F.nd F.len F6 args ha n1 s1 s2 (E := fun _ _ _ => False)
    · cases h
  · split at h
    · rename_i c' f hcl
      split at h
      · rename_i hlim
        obtain ⟨es, h1, rfl⟩ := map_some' h
        obtain ⟨z1, z2, C, ns, hm, hc', hh⟩ := c.cl x c' f hcl
        obtain ⟨q1, q2, ad, nn, M, F⟩ := hh hlim
        obtain ⟨fd, ps, F1, F2, _⟩ := F.ok
        rw [ev]
        exact e_new M F1 c.room (c.gl hg) hm F2 passes0 ⟨z1, z2⟩ hc' q1 q2 F.len (s.a X S P c _ _ h1).1 n1 s1 s2 (E := fun _ _ _ => False)
      · cases h
    · split at h
      · rename_i b hb
        obtain ⟨es, h1, rfl⟩ := map_some' h
        rw [ev]
        exact biOf_ok c hb hg hs ((s.a X S P c _ _ h1).2 hs)
      · cases h
theorem blk_names {X : Cx} {S : Sco} (c : COk X cls T S Φ j) {scope : Scope} (h : L2.blkC T.N S.sc scope (ownOf T.N scope) = true) : BlkOk X.N X.env.scope scope (ownOf T.N scope) := by
  rw [c.hN, c.sc]
  exact blkOk_by h
theorem tKey_some {e : Expr} {k : Str} (h : tKey e = some k) : ∃ kk p, e = .Constant (.str k) kk p := by
  unfold tKey at h
  split at h
  · cases h
    exact ⟨_, _, rfl⟩
  · cases h
theorem isZero_some {e : Expr} (h : isZero e = true) : ∃ kk p, e = .Constant (.int 0) kk p := by
  unfold isZero at h
  split at h
  · rename_i i _ _
    obtain rfl : i = 0 := by simpa using h
    exact ⟨_, _, rfl⟩
  · cases h
theorem isNil_some {e : Expr} (h : isNil e = true) : ∃ p, e = .List [] p := by
  unfold isNil at h
  split at h
  · exact ⟨_, rfl⟩
  · cases h
theorem tapeRef_some {T : TEnv} {S : Sco} {e : Expr} {i : Nat} {k : Str} (h : tapeRef T S e = some (i, k)) : ∃ x p0 kk p1 p, e = .Subscript (.Name x p0) (.Constant (.str k) kk p1) p ∧ slot T S x = some i := by
  unfold tapeRef at h
  split at h
  · split at h
    · rename_i h1 h2
      cases h
      obtain ⟨kk, p, rfl⟩ := tKey_some h2
      exact ⟨_, _, _, _, _, rfl, h1⟩
    · cases h
  · cases h
theorem snd_tape {X : Cx} {T : TEnv} {S : Sco} {Φ : Fns} {j : Nat} {P : Pr} {e : Expr} {m : ME} (c : COk X cls T S Φ j) (h : trTape T S e = some m) :
    PE X e (tE (pmOf X cls) P (ev Φ m)) ∧ (tstB e = true → PT X e (tT (pmOf X cls) P (fTest (ev Φ m)))) ∧ (∀ op vs p, e = .BoolOp op vs p → PW X e (tT (pmOf X cls) P (fTest (ev Φ m)))) := by
  have hu := c.units
  unfold trTape at h
  split at h
  · split at h
    · rename_i i k h1
      obtain ⟨x, p0, kk, p1, p, e1, e2⟩ := tapeRef_some h1
      cases e1
      obtain ⟨q1, q2, q3, q4⟩ := slot_ok e2
      split at h
      · rename_i f tp hk
        cases h
        have hk := keyI_some hk
        subst hk
        rw [ev]
        exact tri (e_tint (by omega) (by rw [c.hN]; exact q1) (by rw [c.sc]; exact q2) q3 q4) (by nofun) (by nofun) (by nofun)
      · split at h
        · rename_i hk
          cases h
          subst hk
          rw [ev]
          exact tri (e_tcells (by omega) (by rw [c.hN]; exact q1) (by rw [c.sc]; exact q2) q3 q4) (by nofun) (by nofun) (by nofun)
        · cases h
    · cases h
  · split at h
    · rename_i i k h1
      obtain ⟨x, p0, kk, p1, p, e1, e2⟩ := tapeRef_some h1
      obtain ⟨q1, q2, q3, q4⟩ := slot_ok e2
      split at h
      · rename_i tp hk
        split at h
        · rename_i hn
          cases h
          have hk2 := keyG_some hk
          subst e1 hk2
          obtain ⟨p3, rfl⟩ := isNil_some hn
          rw [ev]
          exact ⟨(e_tfull (cls := cls) (P := P) hu (by rw [c.hN]; exact q1) (by rw [c.sc]; exact q2) q3 q4).1, fun _ => (e_tfull (cls := cls) (P := P) hu (by rw [c.hN]; exact q1) (by rw [c.sc]; exact q2) q3 q4).2, fun op vs p q => by cases q⟩
        · cases h
      · cases h
    · cases h
  · split at h
    · rename_i i k h1
      obtain ⟨x, p0, kk, p1, p, e1, e2⟩ := tapeRef_some h1
      obtain ⟨q1, q2, q3, q4⟩ := slot_ok e2
      split at h
      · rename_i tp hk
        split at h
        · rename_i hz
          rw [Bool.and_eq_true] at hz
          cases h
          have hk2 := keyG_some hk
          subst e1 hk2
          obtain ⟨k2, p3, rfl⟩ := isZero_some hz.1
          rw [ev]
          exact tri (e_tpop hu (by rw [c.hN]; exact q1) (by rw [c.sc]; exact q2) q3 q4 hz.2) (by nofun) (by nofun) (by nofun)
        · cases h
      · cases h
    · cases h
  · cases h
theorem snd_e {n : Nat} (s : Snd cls T Φ j n) : SE cls T Φ j (n + 1) := by
  intro X S P c e m h
  unfold trE at h
  split at h
  · rename_i m' h1
    cases h
    exact snd_tape c h1
  rename_i h0
  clear h0
  split at h
  · -- a name
    rename_i x pos
    split at h
    · rename_i i hi
      cases h
      obtain ⟨h1, h2, h3, h4⟩ := slot_ok hi
      rw [ev]
      exact tri (e_var (by rw [c.hN]; exact h1) (by rw [c.sc]; exact h2) h3 h4) (by nofun) (by nofun) (by nofun)
    · split at h
      · rename_i hc
        rw [Bool.and_eq_true] at hc
        obtain ⟨i, h1, rfl⟩ := map_some' h
        obtain ⟨t, ht⟩ := c.num x i h1
        rw [ev]
        exact tri (e_c (pe_glob (v := .int i) (c.gl hc.1) ht ⟨t, rfl⟩ (plainName_ok hc.2).1) fun F => .int i) (by nofun) (by nofun) (by nofun)
      · cases h
  · cases h
    rw [ev]
    exact tri (e_c pe_int fun F => .int _) (by nofun) (by nofun) (by nofun)
  · cases h
    rw [ev]
    exact tri (e_c pe_bl fun F => .bl _) (by nofun) (by nofun) (by nofun)
  · cases h
    rw [ev]
    exact tri (e_c pe_non fun F => .non) (by nofun) (by nofun) (by nofun)
  · obtain ⟨x, h1, rfl⟩ := map_some' h
    rw [ev]
    exact tri (e_neg c.ok (s.e X S P c _ _ h1).1) (by nofun) (by nofun) (by nofun)
  · split at h
    · rename_i ht
      obtain ⟨x, h1, rfl⟩ := map_some' h
      have q := s.e X S P c _ _ h1
      rw [ev]
      exact ⟨e_not q.1, fun _ => t_not (q.2.1 ht), fun op vs p z => by cases z⟩
    · cases h
  · simp only [Option.bind_eq_bind, Option.bind_eq_some_iff, pure, Option.some.injEq] at h
    obtain ⟨o, h0, x, h1, y, h2, rfl⟩ := h
    rw [opM_ok h0, ev]
    exact tri (e_bin o c.ok (s.e X S P c _ _ h1).1 (s.e X S P c _ _ h2).1) (by nofun) (by nofun) (by nofun)
  · split at h
    · cases h
    · rename_i hb
      simp only [Option.bind_eq_bind, Option.bind_eq_some_iff, pure, Option.some.injEq] at h
      obtain ⟨o, h0, x, h1, y, h2, rfl⟩ := h
      rw [cmpM_ok h0, ev]
      have q := e_cmp (pos := ‹Pos›) o c.ok c.units (s.e X S P c _ _ h1).1 (s.e X S P c _ _ h2).1 (noSet_marks (by simpa using hb))
      exact ⟨q.1, fun _ => q.2, fun op vs p z => by cases z⟩
  · split at h
    · cases h
    · rename_i hb
      simp only [Option.bind_eq_bind, Option.bind_eq_some_iff, pure, Option.some.injEq] at h
      obtain ⟨o, h0, o', h0', x, h1, y, h2, z, h3, rfl⟩ := h
      rw [cmpM_ok h0, cmpM_ok h0', ev]
      have q := e_chain (pos := ‹Pos›) o o' c.ok c.units (s.e X S P c _ _ h1).1 (s.e X S P c _ _ h2).1 (s.e X S P c _ _ h3).1 (noSet_last (by simpa using hb))
      exact ⟨q.1, fun _ => q.2, fun op vs p z => by cases z⟩
  · -- one operand
    rename_i op a pos
    split at h
    · rename_i ht
      have q := s.e X S P c _ _ h
      have w : PW X (.BoolOp op [a] pos) (tT (pmOf X cls) P (fTest (ev Φ m))) := by
        cases op with
        | And => exact pw_and1 (q.2.1 ht)
        | Or => exact pw_or1 (q.2.1 ht)
      exact ⟨pe_one q.1, fun _ => w.pt, fun _ _ _ _ => w⟩
    · cases h
  · rename_i op a b r p
    split at h
    · rename_i ht
      simp only [Option.bind_eq_bind, Option.bind_eq_some_iff, pure, Option.some.injEq] at h
      obtain ⟨x, h1, y, h2, rfl⟩ := h
      have q1 := s.e X S P c _ _ h1
      have q2 := s.e X S P c _ _ h2
      cases op with
      | And =>
        simp only [ev]
        have w : PW X (.BoolOp .And (a :: b :: r) p) (tT (pmOf X cls) P (fTest (fAnd (ev Φ x) (ev Φ y)))) := (pw_and (q1.2.1 ht) (q2.2.2 _ _ _ rfl)).weak fun _ _ _ h => seqAndT h
        exact ⟨(pe_and q1.1 q2.1).weak fun _ _ _ h => seqAnd h, fun _ => w.pt, fun _ _ _ _ => w⟩
      | Or =>
        simp only [ev]
        have w : PW X (.BoolOp .Or (a :: b :: r) p) (tT (pmOf X cls) P (fTest (fOr (ev Φ x) (ev Φ y)))) := (pw_or (q1.2.1 ht) (q2.2.2 _ _ _ rfl)).weak fun _ _ _ h => seqOrT h
        exact ⟨(pe_or q1.1 q2.1).weak fun _ _ _ h => seqOr h, fun _ => w.pt, fun _ _ _ _ => w⟩
    · cases h
  · split at h
    · rename_i ht
      simp only [Option.bind_eq_bind, Option.bind_eq_some_iff, pure, Option.some.injEq] at h
      obtain ⟨x, h1, y, h2, z, h3, rfl⟩ := h
      rw [ev]
      exact tri (e_ite ((s.e X S P c _ _ h1).2.1 ht) (s.e X S P c _ _ h2).1 (s.e X S P c _ _ h3).1) (by nofun) (by nofun) (by nofun)
    · cases h
  · obtain ⟨x, h1, rfl⟩ := map_some' h
    rw [ev]
    exact tri (e_tup (s.a X S P c _ _ h1).1) (by nofun) (by nofun) (by nofun)
  · obtain ⟨x, h1, rfl⟩ := map_some' h
    rw [ev]
    exact tri (e_lst (s.a X S P c _ _ h1).1) (by nofun) (by nofun) (by nofun)
  · cases h
    rw [ev]
    exact tri e_dic0 (by nofun) (by nofun) (by nofun)
  · simp only [Option.bind_eq_bind, Option.bind_eq_some_iff, pure, Option.some.injEq] at h
    obtain ⟨x, h1, y, h2, rfl⟩ := h
    rw [ev]
    exact tri (e_dic1 c.ok c.units (s.e X S P c _ _ h1).1 (s.e X S P c _ _ h2).1) (by nofun) (by nofun) (by nofun)
  · simp only [Option.bind_eq_bind, Option.bind_eq_some_iff, pure, Option.some.injEq] at h
    obtain ⟨x, h1, l, h2, u, h3, rfl⟩ := h
    rw [ev]
    exact tri (e_slc c.ok (s.e X S P c _ _ h1).1 (s.p X S P c _ _ h2) (s.p X S P c _ _ h3)) (by nofun) (by nofun) (by nofun)
  · split at h
    · rename_i hp
      simp only [Option.bind_eq_bind, Option.bind_eq_some_iff, pure, Option.some.injEq] at h
      obtain ⟨x, h1, y, h2, rfl⟩ := h
      rw [ev]
      exact tri (e_ix c.ok c.units (s.e X S P c _ _ h1).1 (s.e X S P c _ _ h2).1 (plainIx_ok hp)) (by nofun) (by nofun) (by nofun)
    · cases h
  · -- an attribute
    rename_i a f pos
    split at h
    · rename_i hsup
      simp only [Option.bind_eq_bind, Option.bind_eq_some_iff] at h
      obtain ⟨x, h1, y, h2, h⟩ := h
      obtain ⟨c', sm⟩ := y
      obtain ⟨z1, z2, C, ns, hcl, hC, hi, hg⟩ := c.att f c' sm h2
      cases sm with
      | inl i =>
        cases h
        obtain ⟨q1, q2, q3⟩ := hi i rfl
        rw [ev]
        exact tri (e_fld c.ok (s.e X S P c _ _ h1).1 ⟨z1, z2⟩ hcl q1 q2 hC q3 (attrBase hsup)) (by nofun) (by nofun) (by nofun)
      | inr g =>
        simp only at h
        split at h
        · rename_i hlim
          cases h
          obtain ⟨pr, ad, hp, F⟩ := hg g rfl hlim
          obtain ⟨fd, ps, F1, F2, _⟩ := F.ok
          rw [ev]
          exact tri (e_prop c.ok (s.e X S P c _ _ h1).1 ⟨z1, z2⟩ hcl hC hp F1 c.room F2 passes0 F.len (attrBase hsup) (E := fun _ _ _ => False) (ds := [])) (by nofun) (by nofun) (by nofun)
        · cases h
    · cases h
  · -- [.. for ..]
    rename_i elt t it cs scope pos
    split at h
    · rename_i hb
      rw [Bool.and_eq_true] at hb
      have hst : isSetB it = false := by simpa using hb.2
      simp only [Option.bind_eq_bind, Option.bind_eq_some_iff] at h
      obtain ⟨t', h1, it', h2, cs', h3, e', h4, h⟩ := h
      split at h
      · rename_i hsl
        cases h
        have ok := blk_names c hb.1
        have cb := fun (s' : Shared) (H : Hp) (C : Addr) (cl : List (Str × Addr)) (fp : List Addr) => c.blk ok.kind s' H C cl fp
        rw [ev]
        refine tri ((pe_lc c.calm (by rw [c.hN]; exact c.nd) (s.i X S P c _ _ _ h2) ok (fun s' H C cl fp => trT_ok (cb s' H C cl fp) h1) (fun s' H C cl fp => s.c _ _ P.nox (cb s' H C cl fp) _ _ h3) (fun s' H C cl fp => (s.e _ _ P.nox (cb s' H C cl fp) _ _ h4).1) (noSet_fold hst)).weak fun _ _ _ h => seqComp c.ok (slotsIn_ok hsl) h) (by nofun) (by nofun) (by nofun)
      · cases h
    · cases h
  · -- [.. for .. for ..]
    rename_i elt t it cs t1 it1 cs1 scope pos
    split at h
    · rename_i hb
      rw [Bool.and_eq_true, Bool.and_eq_true] at hb
      have hst : isSetB it = false := by simpa using hb.1.2
      have hst1 : isSetB it1 = false := by simpa using hb.2
      simp only [Option.bind_eq_bind, Option.bind_eq_some_iff] at h
      obtain ⟨t', h1, it', h2, cs', h3, t1', h5, it1', h6, cs1', h7, e', h4, h⟩ := h
      split at h
      · rename_i hsl
        rw [Bool.and_eq_true] at hsl
        cases h
        have ok := blk_names c hb.1.1
        have cb := fun (s' : Shared) (H : Hp) (C : Addr) (cl : List (Str × Addr)) (fp : List Addr) => c.blk ok.kind s' H C cl fp
        rw [ev]
        refine tri ((pe_lc2 c.calm (by rw [c.hN]; exact c.nd) (s.i X S P c _ _ _ h2) ok (slotsIn_ok hsl.2) (fun s' H C cl fp => trT_ok (cb s' H C cl fp) h1) (fun s' H C cl fp => s.c _ _ P.nox (cb s' H C cl fp) _ _ h3) (fun s' H C cl fp => s.i _ _ P.nox (cb s' H C cl fp) _ _ _ h6) (fun s' H C cl fp => trT_ok (cb s' H C cl fp) h5) (fun s' H C cl fp => s.c _ _ P.nox (cb s' H C cl fp) _ _ h7) (fun s' H C cl fp => (s.e _ _ P.nox (cb s' H C cl fp) _ _ h4).1) (noSet_fold hst) (fun env => noSet_fold hst1)).weak fun _ _ _ h => seqComp2 c.ok (slotsIn_ok hsl.1) (fun i hi => hi) (slotsIn_ok hsl.2) h) (by nofun) (by nofun) (by nofun)
      · cases h
    · cases h
  · -- {.. for ..}
    rename_i kx vx t it cs scope pos
    split at h
    · rename_i hb
      rw [Bool.and_eq_true] at hb
      have hst : isSetB it = false := by simpa using hb.2
      simp only [Option.bind_eq_bind, Option.bind_eq_some_iff] at h
      obtain ⟨t', h1, it', h2, cs', h3, k', h4, v', h5, h⟩ := h
      split at h
      · rename_i hsl
        cases h
        have ok := blk_names c hb.1
        have cb := fun (s' : Shared) (H : Hp) (C : Addr) (cl : List (Str × Addr)) (fp : List Addr) => c.blk ok.kind s' H C cl fp
        rw [ev]
        refine tri ((pe_dcO c.units c.calm (by rw [c.hN]; exact c.nd) (s.i X S P c _ _ _ h2) ok (fun s' H C cl fp => trT_ok (cb s' H C cl fp) h1) (fun s' H C cl fp => s.c _ _ P.nox (cb s' H C cl fp) _ _ h3) (fun s' H C cl fp => (s.e _ _ P.nox (cb s' H C cl fp) _ _ h4).1) (fun s' H C cl fp => (s.e _ _ P.nox (cb s' H C cl fp) _ _ h5).1) (noSet_fold hst)).weak fun _ _ _ h => seqDcomp c.ok (slotsIn_ok hsl) h) (by nofun) (by nofun) (by nofun)
      · cases h
    · cases h
  · -- sorted(o.values())
    split at h
    · rename_i hc
      rw [Bool.and_eq_true, Bool.and_eq_true] at hc
      obtain ⟨x, h1, rfl⟩ := map_some' h
      rw [ev]
      exact tri (e_bivS c.ok c.units c.calm (c.gl hc.1.1) (c.bt _ (by decide)) (s.e X S P c _ _ h1).1 (attrBase hc.1.2) hc.2) (by nofun) (by nofun) (by nofun)
    · cases h
  · -- isinstance(a, (t1, t2))
    split at h
    · rename_i hc
      rw [Bool.and_eq_true, noStars_cons, noStars_cons, noStars_cons] at hc
      simp only [Option.bind_eq_bind, Option.bind_eq_some_iff, pure, Option.some.injEq] at h
      obtain ⟨x, h1, y, h2, z, h3, rfl⟩ := h
      obtain ⟨v1, u1, q1, _⟩ := tyOf_ok c h2
      obtain ⟨v2, u2, q2, _⟩ := tyOf_ok c h3
      rw [ev]
      exact tri (e_ist2 c.ok c.kok (c.gl hc.1) (c.bt _ (by decide)) (s.e X S P c _ _ h1).1 q1 q2 (by rw [starEach_cons hc.2.1]; rfl) (by rw [starEach_cons hc.2.2.1, star_one hc.2.2.2.1]) (star_one hc.2.2.2.1)) (by nofun) (by nofun) (by nofun)
    · cases h
  · -- isinstance(a, t)
    split at h
    · rename_i hc
      rw [Bool.and_eq_true, noStars_cons, noStars_cons] at hc
      simp only [Option.bind_eq_bind, Option.bind_eq_some_iff, pure, Option.some.injEq] at h
      obtain ⟨x, h1, y, h2, rfl⟩ := h
      obtain ⟨v1, u1, q1, _⟩ := tyOf_ok c h2
      rw [ev]
      exact tri (e_ist1 c.ok c.kok (c.gl hc.1) (c.bt _ (by decide)) (s.e X S P c _ _ h1).1 q1 (by rw [starEach_cons hc.2.1, star_one hc.2.2.1]) (star_one hc.2.2.1)) (by nofun) (by nofun) (by nofun)
    · cases h
  · -- a call
    split at h
    · rename_i hc
      exact tri (call_ok s c hc h) (by nofun) (by nofun) (by nofun)
    · cases h
  · -- o.pop(b)
    split at h
    · rename_i hc
      rw [Bool.and_eq_true] at hc
      simp only [Option.bind_eq_bind, Option.bind_eq_some_iff, pure, Option.some.injEq] at h
      obtain ⟨i, h1, y, h2, rfl⟩ := h
      obtain ⟨q1, q2, q3, q4⟩ := slot_ok h1
      rw [ev]
      exact tri (e_pop c.ok (by rw [c.hN]; exact q1) (by rw [c.sc]; exact q2) q3 q4 (s.e X S P c _ _ h2).1 ⟨attrBase rfl, star_one (by simpa using hc.1), hc.2⟩) (by nofun) (by nofun) (by nofun)
    · cases h
  · -- o.count(b)
    split at h
    · rename_i hc
      rw [Bool.and_eq_true, Bool.and_eq_true] at hc
      simp only [Option.bind_eq_bind, Option.bind_eq_some_iff, pure, Option.some.injEq] at h
      obtain ⟨x, h1, y, h2, rfl⟩ := h
      rw [ev]
      exact tri (e_cnt c.ok c.units (s.e X S P c _ _ h1).1 (s.e X S P c _ _ h2).1 ⟨attrBase hc.1.1, star_one (by simpa using hc.1.2), hc.2⟩) (by nofun) (by nofun) (by nofun)
    · cases h
  · cases h
theorem snd_all (cls : Nat → Option (Addr × List Str)) (T : TEnv) (Φ : Fns) (j : Nat) : ∀ n, Snd cls T Φ j n
  | 0 => ⟨fun X S P c e m h => (nomatch (show (none : Option ME) = some m from h)), fun X S P c es m h => (nomatch (show (none : Option MA) = some m from h)), fun X S P c mp i es m h => (nomatch (show (none : Option MA) = some m from h)), fun X S P c es m h => (nomatch (show (none : Option MA) = some m from h)), fun X S P c o m h => (nomatch (show (none : Option MA) = some m from h)), fun X S P c tg e m h => (nomatch (show (none : Option MI) = some m from h))⟩
  | n + 1 => have s := snd_all cls T Φ j n
    ⟨snd_e s, snd_a s, snd_m s, snd_c s, snd_p s, snd_i s⟩
end
end VL

set_option Elab.async false
set_option linter.all false
set_option maxRecDepth 100000
set_option maxHeartbeats 4000000
/-! V29: assignments. -/
namespace VL
open PySem PySem.Spec PySem.W PyProof.Rows L2 StX

section
variable {p : Pm} {P : Pr} {F0 H0 F H F' H' : Hp} {W W' : Addr → Prop} {σ : L2.St} {D : Ends}
theorem SVs.ext (E : Ext F H W F' H' W') : ∀ {ws : List SV} {vs : List V} {S : List Addr}, SVs p H0 F H W ws vs S → SVs p H0 F' H' W' ws vs S
  | _, _, _, .nil => .nil
  | _, _, _, .cons k d t => .cons (k.ext E) d (SVs.ext E t)
theorem gList_set : ∀ {is : List Nat} {vs : List V} {σ : L2.St} {Q : L2.St → Hp → Prop}, vs.length = is.length → Q (setsSt is vs σ) H → gList is vs σ H Q
  | [], [], _, _, _, q => ⟨rfl, q⟩
  | i :: is, v :: vs, σ, Q, h, q => ⟨v, vs, rfl, gList_set (by simpa using h) q⟩
  | [], _ :: _, _, _, h, _ => by simp at h
  | _ :: _, [], _, _, h, _ => by simp at h
theorem seqParT {is : List Nat} {f : Ev → Res (List SV × Ev)} (hf : ∀ i ∈ is, Free P i) (hl : is.length ≤ lim) (h : tS p P (sPar is f) D σ H) : tAsg (tTup (tP p P f)) (gT p.K (.tp is)) D σ H := by
  obtain ⟨F, ρ, fp, R, h⟩ := h
  unfold sPar at h
  simp only [wpR_bind, wpR_lift, wpR_pure] at h
  refine tP.go Ext.refl R h fun x ⟨ρ', e, g⟩ F1 H1 fp1 vs S E1 _ R1 sv => ?_
  have hvl : vs.length = is.length := (setsV_go sv e hf E1 R1).choose_spec.2.2
  refine ⟨by rw [hvl]; exact Nat.le_trans hl lim_line, fun q hq => ?_⟩
  obtain ⟨E2, R2, _, _⟩ := R1.newH (o := .tup vs) hq
  obtain ⟨fp2, E3, R3, _⟩ := setsV_go (sv.ext E2) e hf (E1.trans E2) R2
  exact ⟨q, vs, rfl, .inl (.of upd_same), hvl, gList_set hvl (g F1 _ fp2 _ E3 R3)⟩
theorem tAsg_mono {t t' : TE} {g : TG} (h : ∀ σ H Q, t' σ H Q → t σ H Q) (D : Ends) (σ : L2.St) (H : Hp) (x : tAsg t' g D σ H) : tAsg t g D σ H := h _ _ _ x
end
section
variable {cls : Nat → Option (Addr × List Str)} {T : TEnv} {Φ : Fns} {j : Nat} {X : Cx} {S : Sco} {P : Pr}
theorem par_ok (c : COk X cls T S Φ j) : ∀ (n : Nat) (vs : List Expr) (m : MA) (bs : List Bool), trA T n S vs = some m → noStars vs = true → bs.length = vs.length → PA X vs (tP (pmOf X cls) P (evPar Φ bs m))
  | 0, vs, m, bs, h, _, _ => (nomatch (show (none : Option MA) = some m from h))
  | n + 1, [], m, bs, h, hn, hl => by
    rw [trA] at h
    cases h
    cases bs with
    | nil =>
      rw [evPar]
      exact pa_nil.weak fun _ _ _ h => seqPNil h
    | cons b bs => simp at hl
  | n + 1, e :: es, m, bs, h, hn, hl => by
    rw [noStars_cons] at hn
    rw [trA] at h
    split at h
    · rename_i e' he
      obtain ⟨p, rfl⟩ := starOf_some he
      cases hn.1
    · simp only [Option.bind_eq_bind, Option.bind_eq_some_iff, pure, Option.some.injEq] at h
      obtain ⟨x, h1, r, h2, rfl⟩ := h
      cases bs with
      | nil => simp at hl
      | cons b bs =>
        rw [evPar]
        exact (pa_cons ((snd_all cls T Φ j n).e X S P c _ _ h1).1 (par_ok c n es r bs h2 hn.2 (by simpa using hl)) (starEach_cons hn.1)).weak fun _ _ _ h => seqPCons c.ok h
theorem pure_bool {a b : Bool} (h : a = b) : (pure a : Sem Bool) = pure b := by rw [h]
theorem lc1_inv {elt t it : Expr} {cs : List Expr} {scope : Scope} {p : Pos} {n : Nat} {m : ME} (h : trE T (n + 1) S (.ListComp elt [⟨t, it, cs, 0⟩] scope p) = some m) : L2.blkC T.N S.sc scope (ownOf T.N scope) = true ∧ isSetB it = false ∧ ∃ t' it' cs' e', trT T (S.blk scope) t = some t' ∧ trI T n S (tupT t) it = some it' ∧ trC T n (S.blk scope) cs = some cs' ∧ trE T n (S.blk scope) elt = some e' ∧ slotsIn t' ((ownOf T.N scope).map (·.2)) = true ∧ m = .comp ((ownOf T.N scope).map (·.2)) t' it' cs' e' := by
  have h' : (if L2.blkC T.N S.sc scope (ownOf T.N scope) && !isSetB it then do
      let own := (ownOf T.N scope).map (·.2)
      let t' ← trT T (S.blk scope) t
      let it' ← trI T n S (tupT t) it
      let cs' ← trC T n (S.blk scope) cs
      let e' ← trE T n (S.blk scope) elt
      if slotsIn t' own then pure (.comp own t' it' cs' e') else none
      else none) = some m := h
  split at h'
  · rename_i hb
    rw [Bool.and_eq_true] at hb
    simp only [Option.bind_eq_bind, Option.bind_eq_some_iff] at h'
    obtain ⟨t', h1, it', h2, cs', h3, e', h4, h5⟩ := h'
    split at h5
    · rename_i hsl
      cases h5
      exact ⟨hb.1, by simpa using hb.2, t', it', cs', e', h1, h2, h3, h4, hsl, rfl⟩
    · cases h5
  · cases h'
theorem lc2_inv {elt t it t1 it1 : Expr} {cs cs1 : List Expr} {scope : Scope} {p : Pos} {n : Nat} {m : ME} (h : trE T (n + 1) S (.ListComp elt [⟨t, it, cs, 0⟩, ⟨t1, it1, cs1, 0⟩] scope p) = some m) : L2.blkC T.N S.sc scope (ownOf T.N scope) = true ∧ isSetB it = false ∧ isSetB it1 = false ∧ ∃ t' it' cs' t1' it1' cs1' e', trT T (S.blk scope) t = some t' ∧ trI T n S (tupT t) it = some it' ∧ trC T n (S.blk scope) cs = some cs' ∧
    trT T (S.blk scope) t1 = some t1' ∧ trI T n (S.blk scope) (tupT t1) it1 = some it1' ∧ trC T n (S.blk scope) cs1 = some cs1' ∧ trE T n (S.blk scope) elt = some e' ∧ slotsIn t' ((ownOf T.N scope).map (·.2)) = true ∧ slotsIn t1' ((ownOf T.N scope).map (·.2)) = true ∧ m = .comp2 ((ownOf T.N scope).map (·.2)) t1'.slots t' it' cs' t1' it1' cs1' e' := by
  have h' : (if L2.blkC T.N S.sc scope (ownOf T.N scope) && !isSetB it && !isSetB it1 then do
      let own := (ownOf T.N scope).map (·.2)
      let t' ← trT T (S.blk scope) t
      let it' ← trI T n S (tupT t) it
      let cs' ← trC T n (S.blk scope) cs
      let t1' ← trT T (S.blk scope) t1
      let it1' ← trI T n (S.blk scope) (tupT t1) it1
      let cs1' ← trC T n (S.blk scope) cs1
      let e' ← trE T n (S.blk scope) elt
      if slotsIn t' own && slotsIn t1' own then pure (.comp2 own t1'.slots t' it' cs' t1' it1' cs1' e') else none
      else none) = some m := h
  split at h'
  · rename_i hb
    rw [Bool.and_eq_true, Bool.and_eq_true] at hb
    simp only [Option.bind_eq_bind, Option.bind_eq_some_iff] at h'
    obtain ⟨t', h1, it', h2, cs', h3, t1', h5, it1', h6, cs1', h7, e', h4, h8⟩ := h'
    split at h8
    · rename_i hsl
      rw [Bool.and_eq_true] at hsl
      cases h8
      exact ⟨hb.1.1, by simpa using hb.1.2, by simpa using hb.2, t', it', cs', t1', it1', cs1', e', h1, h2, h3, h5, h6, h7, h4, hsl.1, hsl.2, rfl⟩
    · cases h8
  · cases h'
theorem dc_inv {kx vx t it : Expr} {cs : List Expr} {scope : Scope} {p : Pos} {n : Nat} {m : ME} (h : trE T (n + 1) S (.DictComp kx vx [⟨t, it, cs, 0⟩] scope p) = some m) : L2.blkC T.N S.sc scope (ownOf T.N scope) = true ∧ isSetB it = false ∧ ∃ t' it' cs' k' v', trT T (S.blk scope) t = some t' ∧ trI T n S (tupT t) it = some it' ∧ trC T n (S.blk scope) cs = some cs' ∧ trE T n (S.blk scope) kx = some k' ∧ trE T n (S.blk scope) vx = some v' ∧ slotsIn t' ((ownOf T.N scope).map (·.2)) = true ∧ m = .dcomp ((ownOf T.N scope).map (·.2)) t' it' cs' k' v' := by
  have h' : (if L2.blkC T.N S.sc scope (ownOf T.N scope) && !isSetB it then do
      let own := (ownOf T.N scope).map (·.2)
      let t' ← trT T (S.blk scope) t
      let it' ← trI T n S (tupT t) it
      let cs' ← trC T n (S.blk scope) cs
      let k' ← trE T n (S.blk scope) kx
      let v' ← trE T n (S.blk scope) vx
      if slotsIn t' own then pure (.dcomp own t' it' cs' k' v') else none
      else none) = some m := h
  split at h'
  · rename_i hb
    rw [Bool.and_eq_true] at hb
    simp only [Option.bind_eq_bind, Option.bind_eq_some_iff] at h'
    obtain ⟨t', h1, it', h2, cs', h3, k', h4, v', h5, h6⟩ := h'
    split at h6
    · rename_i hsl
      cases h6
      exact ⟨hb.1, by simpa using hb.2, t', it', cs', k', v', h1, h2, h3, h4, h5, hsl, rfl⟩
    · cases h6
  · cases h'
/-- only these comprehensions are translated -/
theorem lc_shape {elt : Expr} {gs : List Comprehension} {scope : Scope} {p : Pos} {n : Nat} {m : ME} (h : trE T (n + 1) S (.ListComp elt gs scope p) = some m) : (∃ t it cs, gs = [⟨t, it, cs, 0⟩]) ∨ ∃ t it cs t1 it1 cs1, gs = [⟨t, it, cs, 0⟩, ⟨t1, it1, cs1, 0⟩] := by
  have key : ∀ e m, trE T (n + 1) S e = some m → ∀ elt gs scope p, e = .ListComp elt gs scope p → (∃ t it cs, gs = [⟨t, it, cs, 0⟩]) ∨ ∃ t it cs t1 it1 cs1, gs = [⟨t, it, cs, 0⟩, ⟨t1, it1, cs1, 0⟩] := by
    intro e m h elt gs scope p he
    have h0 : trTape T S e = none := by
      subst he
      rfl
    unfold trE at h
    rw [h0] at h
    dsimp only at h
    clear h0
    split at h <;> first
      | (cases he; exact .inl ⟨_, _, _, rfl⟩)
      | (cases he; exact .inr ⟨_, _, _, _, _, _, rfl⟩)
      | (cases h; done)
      | (cases he; done)
  exact key _ m h elt gs scope p rfl
theorem dc_shape {kx vx : Expr} {gs : List Comprehension} {scope : Scope} {p : Pos} {n : Nat} {m : ME} (h : trE T (n + 1) S (.DictComp kx vx gs scope p) = some m) : ∃ t it cs, gs = [⟨t, it, cs, 0⟩] := by
  have key : ∀ e m, trE T (n + 1) S e = some m → ∀ kx vx gs scope p, e = .DictComp kx vx gs scope p → (∃ t it cs, gs = [⟨t, it, cs, 0⟩]) := by
    intro e m h kx vx gs scope p he
    have h0 : trTape T S e = none := by
      subst he
      rfl
    unfold trE at h
    rw [h0] at h
    dsimp only at h
    clear h0
    split at h <;> first
      | (cases he; exact ⟨_, _, _, rfl⟩)
      | (cases h; done)
      | (cases he; done)
  exact key _ m h kx vx gs scope p rfl
theorem sc_shape {elt : Expr} {gs : List Comprehension} {scope : Scope} {p : Pos} {n : Nat} {m : ME} (h : trE T (n + 1) S (.SetComp elt gs scope p) = some m) : False := by
  have key : ∀ e m, trE T (n + 1) S e = some m → ∀ elt gs scope p, e = .SetComp elt gs scope p → False := by
    intro e m h elt gs scope p he
    have h0 : trTape T S e = none := by
      subst he
      rfl
    unfold trE at h
    rw [h0] at h
    dsimp only at h
    clear h0
    split at h <;> first
      | (cases h; done)
      | (cases he; done)
  exact key _ m h elt gs scope p rfl
/-- name = value -/
theorem set_ok (c : COk X cls T S Φ j) {x : Str} {px pos : Pos} {e : Expr} {i n : Nat} {m : ME} (hs : storeB S x = true) (hi : ixOf T.N x = some i) (h : trE T n S e = some m) : PS X (.Assign [.Name x px] e pos) (tAsg (tE (pmOf X cls) P (ev Φ m)) (gName i)) := by
  have N1 : X.N.Nodup := by rw [c.hN]; exact c.nd
  have N2 : X.N[i]? = some x := by rw [c.hN]; exact ixOf_ok hi
  obtain ⟨l1, l2⟩ := c.st x hs
  have L1 : Loc X.env.scope x := by rw [c.sc]; exact l1
  have L2' : X.fn x = true ∨ X.env.scope.names.lookup x = some .local := by rw [c.sc]; exact l2
  have bk : X.env.blockKind = .function := by unfold Env.blockKind; rw [c.sc, c.kd]; rfl
  have gen : ∀ {t : TE}, PE X e t → swapsWith e (some (.Name x px)) pos.line X.env = pure false → PS X (.Assign [.Name x px] e pos) (tAsg t (gName i)) := fun he hw => ps_set N1 N2 L1 he hw L2'
  have PEe := ((snd_all cls T Φ j n).e X S P c _ _ h).1
  by_cases hc : isCompB e = false
  · exact gen PEe (noComp_sw hc)
  · -- a comprehension
    cases n with
    | zero => exact (nomatch (show (none : Option ME) = some m from h))
    | succ n =>
      have s := snd_all cls T Φ j n
      cases e with
      | ListComp elt gs scope p =>
        have sw : swapsWith (.ListComp elt gs scope p) (some (.Name x px)) pos.line X.env = pure (X.env.blockKind == .function && X.env.kindOf x == some .local && px.line == p.line && !(scope.names.any fun (n, k) => n == x && (k == .local || k == .cell))) := rfl
        cases hb : (X.env.blockKind == .function && X.env.kindOf x == some .local && px.line == p.line && !(scope.names.any fun (n, k) => n == x && (k == .local || k == .cell))) with
        | false => exact gen PEe (by rw [sw, hb])
        | true =>
          rw [hb] at sw
          have xl : X.env.scope.names.lookup x = some .local := by
            simp only [Bool.and_eq_true, beq_iff_eq] at hb
            exact hb.1.1.2
          rcases lc_shape h with ⟨t, it, cs, rfl⟩ | ⟨t, it, cs, t1, it1, cs1, rfl⟩
          · obtain ⟨hb1, hst, t', it', cs', e', h1, h2, h3, h4, hsl, rfl⟩ := lc1_inv h
            have ok := blk_names c hb1
            have cb := fun (s' : Shared) (H : Hp) (C : Addr) (cl : List (Str × Addr)) (fp : List Addr) => c.blk ok.kind s' H C cl fp
            rw [ev]
            exact (ps_setLc c.calm N1 N2 xl sw (s.i X S P c _ _ _ h2) ok (fun s' H C cl fp => trT_ok (cb s' H C cl fp) h1) (fun s' H C cl fp => s.c _ _ P.nox (cb s' H C cl fp) _ _ h3) (fun s' H C cl fp => (s.e _ _ P.nox (cb s' H C cl fp) _ _ h4).1) (noSet_fold hst)).weak fun D σ H h => tAsg_mono (fun _ _ _ h => seqComp c.ok (slotsIn_ok hsl) h) D σ H h
          · obtain ⟨hb1, hst, hst1, t', it', cs', t1', it1', cs1', e', h1, h2, h3, h5, h6, h7, h4, hsl, hsl1, rfl⟩ := lc2_inv h
            have ok := blk_names c hb1
            have cb := fun (s' : Shared) (H : Hp) (C : Addr) (cl : List (Str × Addr)) (fp : List Addr) => c.blk ok.kind s' H C cl fp
            rw [ev]
            exact (ps_setLc2 c.calm N1 N2 xl sw (s.i X S P c _ _ _ h2) ok (slotsIn_ok hsl1) (fun s' H C cl fp => trT_ok (cb s' H C cl fp) h1) (fun s' H C cl fp => s.c _ _ P.nox (cb s' H C cl fp) _ _ h3) (fun s' H C cl fp => s.i _ _ P.nox (cb s' H C cl fp) _ _ _ h6) (fun s' H C cl fp => trT_ok (cb s' H C cl fp) h5) (fun s' H C cl fp => s.c _ _ P.nox (cb s' H C cl fp) _ _ h7) (fun s' H C cl fp => (s.e _ _ P.nox (cb s' H C cl fp) _ _ h4).1) (noSet_fold hst) (fun env => noSet_fold hst1)).weak fun D σ H h => tAsg_mono (fun _ _ _ h => seqComp2 c.ok (slotsIn_ok hsl) (fun i hi => hi) (slotsIn_ok hsl1) h) D σ H h
      | DictComp kx vx gs scope p =>
        have sw : swapsWith (.DictComp kx vx gs scope p) (some (.Name x px)) pos.line X.env = pure (X.env.blockKind == .function && X.env.kindOf x == some .local && px.line == p.line && !(scope.names.any fun (n, k) => n == x && (k == .local || k == .cell))) := rfl
        cases hb : (X.env.blockKind == .function && X.env.kindOf x == some .local && px.line == p.line && !(scope.names.any fun (n, k) => n == x && (k == .local || k == .cell))) with
        | false => exact gen PEe (by rw [sw, hb])
        | true =>
          rw [hb] at sw
          have xl : X.env.scope.names.lookup x = some .local := by
            simp only [Bool.and_eq_true, beq_iff_eq] at hb
            exact hb.1.1.2
          obtain ⟨t, it, cs, rfl⟩ := dc_shape h
          obtain ⟨hb1, hst, t', it', cs', k', v', h1, h2, h3, h4, h5, hsl, rfl⟩ := dc_inv h
          have ok := blk_names c hb1
          have cb := fun (s' : Shared) (H : Hp) (C : Addr) (cl : List (Str × Addr)) (fp : List Addr) => c.blk ok.kind s' H C cl fp
          rw [ev]
          exact (ps_setDcO c.units c.calm N1 N2 xl sw (s.i X S P c _ _ _ h2) ok (fun s' H C cl fp => trT_ok (cb s' H C cl fp) h1) (fun s' H C cl fp => s.c _ _ P.nox (cb s' H C cl fp) _ _ h3) (fun s' H C cl fp => (s.e _ _ P.nox (cb s' H C cl fp) _ _ h4).1) (fun s' H C cl fp => (s.e _ _ P.nox (cb s' H C cl fp) _ _ h5).1) (noSet_fold hst)).weak fun D σ H h => tAsg_mono (fun _ _ _ h => seqDcomp c.ok (slotsIn_ok hsl) h) D σ H h
      | SetComp elt gs scope p => exact (sc_shape h).elim
      | _ => exact absurd rfl hc
end
end VL

set_option Elab.async false
set_option linter.all false
set_option maxRecDepth 100000
set_option maxHeartbeats 4000000
/-! V30: the translation of statements is sound. -/
namespace VL
open PySem PySem.Spec PySem.W PyProof.Rows L2 StX

section
variable {cls : Nat → Option (Addr × List Str)} {T : TEnv} {Φ : Fns} {j : Nat} {X : Cx} {S : Sco} {P : Pr}
theorem stuck_ok {st : Stmt} : PS X st (tS (pmOf X cls) P sBad) := ps_never.weak fun D σ H ⟨F, ρ, fp, R, h⟩ => h
theorem stuckB_ok {st : List Stmt} : PSs X st (tS (pmOf X cls) P sBad) := pss_never.weak fun D σ H ⟨F, ρ, fp, R, h⟩ => h
/-- the parameters that are owned are no slots for others -/
def PmOk (T : TEnv) (P : Pr) : Prop := ∀ q ∈ P.prm, q.1 ∈ T.pm
theorem freeB_ok (h : PmOk T P) {i : Nat} (hi : freeB T i = true) : Free P i := fun q hq e => (of_decide_eq_true hi) (e ▸ h q hq)
structure SndS (cls : Nat → Option (Addr × List Str)) (T : TEnv) (Φ : Fns) (j n : Nat) (X : Cx) (S : Sco) (P : Pr) : Prop where
  s : ∀ st, PS X st (tS (pmOf X cls) P (exS Φ (trS T n S st)))
  b : ∀ st, PSs X st (tS (pmOf X cls) P (exB Φ (trB T n S st)))
theorem snd_b {n : Nat} (s : SndS cls T Φ j n X S P) : ∀ st, PSs X st (tS (pmOf X cls) P (exB Φ (trB T (n + 1) S st))) := by
  intro st
  cases st with
  | nil =>
    rw [trB, exB]
    exact pss_nil.weak fun _ _ _ h => seqNext h
  | cons a r =>
    rw [trB]
    have key : ∀ (m : MS) (mr : MB), PS X a (tS (pmOf X cls) P (exS Φ m)) → PSs X r (tS (pmOf X cls) P (exB Φ mr)) → PSs X (a :: r) (tS (pmOf X cls) P (exB Φ (.cons m mr))) := by
      intro m mr h1 h2
      cases mr with
      | nil =>
        rw [exB]
        rw [exB] at h2
        refine (pss_cons h1 h2).weak fun D σ H ⟨F, ρ, fp, R, h⟩ => ?_
        refine ⟨F, ρ, fp, R, wpR_mono h (fun _ e => e) fun o k => ?_⟩
        cases o with
        | nx ρ' => exact fun F' H' fp' σ' E' R' => ⟨F', ρ', fp', R', fun F2 H2 fp2 σ2 E2 R2 => k F2 H2 fp2 σ2 (E'.trans E2) R2⟩
        | bk ρ' => exact k
        | ct ρ' => exact k
        | rt r ρ' => exact k
      | cons m2 mr2 =>
        rw [exB]
        · exact (pss_cons h1 h2).weak fun _ _ _ h => seqSeq h
        · exact fun z => nomatch z
    exact key _ _ (s.s a) (s.b r)
theorem trTs_len : ∀ {es : List Expr} {is : List Nat}, trTs T S es = some is → is.length = es.length
  | [], is, h => by simp [trTs] at h; subst h; rfl
  | e :: es, is, h => by
    cases e with
    | Name x p =>
      rw [trTs] at h
      split at h
      · split at h
        · rename_i i is' h1 h2
          cases h
          simp [trTs_len h2]
        · cases h
      · cases h
    | _ => simp [trTs] at h
theorem trTs_cons {e : Expr} {es : List Expr} {is : List Nat} (h : trTs T S (e :: es) = some is) : ∃ x p i is', e = .Name x p ∧ is = i :: is' ∧ storeB S x = true ∧ ixOf T.N x = some i ∧ trTs T S es = some is' := by
  cases e with
  | Name x p =>
    rw [trTs] at h
    split at h
    · rename_i hs
      split at h
      · rename_i i is' h1 h2
        cases h
        exact ⟨x, p, i, is', rfl, rfl, hs, h1, h2⟩
      · cases h
    · cases h
  | _ => simp [trTs] at h
theorem namesOf_len : ∀ {es : List Expr} {xs : List (Str × Pos)}, namesOf es = some xs → xs.length = es.length
  | [], xs, h => by simp [namesOf] at h; subst h; rfl
  | e :: es, xs, h => by
    rw [namesOf] at h
    split at h
    · rename_i x xs' h1 h2
      cases h
      simp [namesOf_len h2]
    · cases h
theorem swapName_cons {sc : Scope} {l : Option Nat} {x : Str} {p : Pos} {es : List Expr} (f : Expr → Option Str) (hf : ∀ x p, f (.Name x p) = some x ∨ f (.Name x p) = none) (h : (List.filterMap f (.Name x p :: es)).length = es.length + 1) : f (.Name x p) = some x ∧ (List.filterMap f es).length = es.length := by
  rcases hf x p with e | e
  · rw [List.filterMap_cons, e] at h
    exact ⟨e, by simpa using h⟩
  · rw [List.filterMap_cons, e] at h
    have := List.length_filterMap_le f es
    simp only at h
    omega
def swapF (sc : Scope) (l : Nat) : Expr → Option Str
  | .Name id pos => if sc.names.lookup id == some .local && pos.line == l then some id else none
  | _ => none
theorem swapF_name {sc : Scope} {l : Nat} (x : Str) (p : Pos) : swapF sc l (.Name x p) = if (sc.names.lookup x == some .local && p.line == l) = true then some x else none := rfl
theorem swapF_local {sc : Scope} {l : Nat} {x : Str} {p : Pos} (h : swapF sc l (.Name x p) = some x) : sc.names.lookup x = some .local := by
  rw [swapF_name] at h
  by_cases c : (sc.names.lookup x == some .local && p.line == l) = true
  · rw [Bool.and_eq_true] at c
    exact beq_iff_eq.mp c.1
  · rw [if_neg c] at h
    cases h
theorem swapF_or {sc : Scope} {l : Nat} (x : Str) (p : Pos) : swapF sc l (.Name x p) = some x ∨ swapF sc l (.Name x p) = none := by
  rw [swapF_name]
  by_cases c : (sc.names.lookup x == some .local && p.line == l) = true
  · rw [if_pos c]; exact .inl rfl
  · rw [if_neg c]; exact .inr rfl
theorem swapNames_eq (sc : Scope) (ts : List Expr) : swapNames sc ts = ts.filterMap (swapF sc ((ts.head?.map (·.pos.line)).getD 0)) := rfl
theorem pip_aug {o : MOp} : PIp X (opOf o) (rAug o) := by
  intro pins s σ H x y v u Q I rx ry ⟨i, k, e1, e2, r, h, q⟩
  cases o with
  | add =>
    simp [augR] at h
    subst h
    exact iop_add pins s σ H x y v u Q I rx ry ⟨i, k, e1, e2, q⟩
  | sub =>
    simp [augR] at h
    subst h
    exact iop_sub pins s σ H x y v u Q I rx ry ⟨i, k, e1, e2, q⟩
  | _ => simp [augR] at h
theorem swap_other {ts : List Expr} {k : Nat} {p : Pos} {e : Expr} {env : Env} (h : tupE e = false) : swappedStores [.Tuple ts k p] e env = pure none := by
  cases e <;> first | rfl | cases h
theorem ix_ne {N : List Str} {x y : Str} {i k : Nat} (h1 : ixOf N x = some i) (h2 : ixOf N y = some k) (h : x ≠ y) : i ≠ k := fun e => by
  subst e
  have a := ixOf_ok h1
  rw [ixOf_ok h2] at a
  exact h (Option.some.inj a).symm
theorem dup2 {x y : Str} (h : [x, y].eraseDups.length = 2) : x ≠ y := fun e => by
  subst e
  simp [List.eraseDups_cons] at h
theorem dup3 {x y z : Str} (h : [x, y, z].eraseDups.length = 3) : x ≠ y ∧ x ≠ z ∧ y ≠ z := by
  refine ⟨fun e => ?_, fun e => ?_, fun e => ?_⟩
  · subst e
    simp [List.eraseDups_cons, List.filter_cons] at h
    split at h <;> simp [List.eraseDups_cons] at h
  · subst e
    simp [List.eraseDups_cons, List.filter_cons] at h
    split at h <;> simp [List.eraseDups_cons] at h
  · subst e
    simp [List.eraseDups_cons, List.filter_cons] at h
    split at h <;> simp [List.eraseDups_cons] at h
/-- a, b, .. = x, y, .. -/
theorem par_all (c : COk X cls T S Φ j) {ts vs : List Expr} {k1 k2 : Nat} {p1 p2 p3 : Pos} {is : List Nat} {bs : List Bool} {ms : MA} {n : Nat} (hn : noStars vs = true) (hk : (swapKind S.sc ts vs).isSome = true) (hl : ts.length = vs.length) (hlim : ts.length ≤ lim) (h1 : trTs T S ts = some is) (hb : bs.length = ts.length) (h3 : trA T n S vs = some ms)
    (hfree : ∀ i ∈ is, Free P i) : PS X (.Assign [.Tuple ts k1 p1] (.Tuple vs k2 p2) p3) (tS (pmOf X cls) P (sPar is (evPar Φ bs ms))) := by
  have N1 : X.N.Nodup := by rw [c.hN]; exact c.nd
  have pa := par_ok (P := P) c n vs ms bs h3 hn (by rw [hb, hl])
  obtain ⟨b, hb'⟩ := Option.isSome_iff_exists.mp hk
  have sw := swap_go (k := k1) (k' := k2) (p := p1) (p' := p2) c.sc c.kd hb'
  cases b with
  | false =>
    exact (ps_asg (pe_tup pa) (trT_ok c (t := .tp is) (by show (trTs T S ts).map MT.tp = _; rw [h1]; rfl)) rfl sw rfl).weak fun D σ H h => seqParT hfree (by rw [trTs_len h1]; exact hlim) h
  | true =>
    obtain ⟨s1, s2, s3, s4⟩ := swap_names hb'
    have hN : ∀ {x : Str} {i : Nat}, ixOf T.N x = some i → X.N[i]? = some x := fun h => by rw [c.hN]; exact ixOf_ok h
    rw [swapNames_eq] at s1 s2
    rcases s3 with s3 | s3
    · match ts, vs, s3, hl with
      | [e1, e2], [a, b], _, _ =>
        obtain ⟨x, px, i, is1, rfl, rfl, hs1, hi1, h1⟩ := trTs_cons h1
        obtain ⟨y, py, i2, is2, rfl, rfl, hs2, hi2, h1⟩ := trTs_cons h1
        simp [trTs] at h1
        subst h1
        obtain ⟨q1, r1⟩ := swapName_cons (sc := S.sc) (l := none) _ swapF_or s1
        obtain ⟨q2, _⟩ := swapName_cons (sc := S.sc) (l := none) _ swapF_or r1
        have e : swapNames S.sc [.Name x px, .Name y py] = [x, y] := by
          rw [swapNames_eq, List.filterMap_cons, q1, List.filterMap_cons, q2]
          rfl
        rw [← swapNames_eq, e] at s2
        have hxy := dup2 s2
        rw [if_pos rfl, e] at sw
        exact (ps_par c.calm N1 (hN hi1) (hN hi2) (ix_ne hi1 hi2 hxy) (by rw [c.sc]; exact swapF_local q1) (by rw [c.sc]; exact swapF_local q2) pa sw rfl).weak fun D σ H h => seqPar2 hfree h
    · match ts, vs, s3, hl with
      | [e1, e2, e3], [a, b, d], _, _ =>
        obtain ⟨x, px, i, is1, rfl, rfl, hs1, hi1, h1⟩ := trTs_cons h1
        obtain ⟨y, py, i2, is2, rfl, rfl, hs2, hi2, h1⟩ := trTs_cons h1
        obtain ⟨z, pz, i3, is3, rfl, rfl, hs3, hi3, h1⟩ := trTs_cons h1
        simp [trTs] at h1
        subst h1
        obtain ⟨q1, r1⟩ := swapName_cons (sc := S.sc) (l := none) _ swapF_or s1
        obtain ⟨q2, r2⟩ := swapName_cons (sc := S.sc) (l := none) _ swapF_or r1
        obtain ⟨q3, _⟩ := swapName_cons (sc := S.sc) (l := none) _ swapF_or r2
        have e : swapNames S.sc [.Name x px, .Name y py, .Name z pz] = [x, y, z] := by
          rw [swapNames_eq, List.filterMap_cons, q1, List.filterMap_cons, q2, List.filterMap_cons, q3]
          rfl
        rw [← swapNames_eq, e] at s2
        obtain ⟨d1, d2, d3⟩ := dup3 s2
        rw [if_pos rfl, e] at sw
        exact (ps_par3 c.calm N1 (hN hi1) (hN hi2) (hN hi3) (ix_ne hi1 hi2 d1) (ix_ne hi1 hi3 d2) (ix_ne hi2 hi3 d3) (by rw [c.sc]; exact swapF_local q1) (by rw [c.sc]; exact swapF_local q2) (by rw [c.sc]; exact swapF_local q3) pa sw rfl).weak fun D σ H h => seqPar3 hfree h
theorem assign_sub {o k : Expr} {tpos : Pos} {env : Env} (h : plainIx k = true) (v : Value) : assign (.Subscript o k tpos) env v = (do
      let ov ← holding [v] (eval o env)
      let iv ← holding [v, ov] (eval k env)
      standAt tpos
      holding [v, ov, iv] (setItem ov iv v)
      release [v, ov, iv] []) := by
  cases k <;> first | rfl | cases h
theorem sole {t v : Expr} {l : Nat} {env : Env} (h : isCompB v = false) : swapsWithSole [t] v l env = pure false := noComp_sw h
theorem ps_expr' {e : Expr} {te : TE} {pos : Pos} (he : PE X e te) (h : isCompB e = false) : PS X (.Expr e pos) (tDrop te) := ps_expr he (noComp_sw h)
theorem snd_tret {st : Stmt} {i : Nat} {tp : Bool} {e : Expr} {fa : FE} (c : COk X cls T S Φ j) (pm : PmOk T P) (h : tapeRet T S st = some (i, tp, e)) (he : PE X e (tE (pmOf X cls) P fa)) : PS X st (tS (pmOf X cls) P (sRtape i tp fa)) := by
  unfold tapeRet at h
  split at h
  · split at h
    · rename_i i' h1
      obtain ⟨q1, q2, q3, q4⟩ := slot_ok h1
      split at h
      · rename_i hf
        have hfr : Free P i' := freeB_ok pm (show freeB T i' = true from hf)
        split at h
        · rename_i hk
          cases h
          simp only [Bool.and_eq_true, beq_iff_eq] at hk
          obtain ⟨⟨⟨⟨⟨k1, k2⟩, k3⟩, k4⟩, z1⟩, z2⟩ := hk
          obtain ⟨_, _, rfl⟩ := tKey_some k1
          obtain ⟨_, _, rfl⟩ := tKey_some k2
          obtain ⟨_, _, rfl⟩ := tKey_some k3
          obtain ⟨_, _, rfl⟩ := tKey_some k4
          obtain ⟨_, _, rfl⟩ := isZero_some z1
          obtain ⟨_, _, rfl⟩ := isZero_some z2
          exact s_rtapeA (k1 := "") (k2 := "") (k3 := "") (k4 := "") c.ok (by rw [c.hN]; exact q1) (by rw [c.sc]; exact q2) q3 q4 hfr he
        · split at h
          · rename_i hk
            cases h
            simp only [Bool.and_eq_true, beq_iff_eq] at hk
            obtain ⟨⟨⟨⟨⟨k1, k2⟩, k3⟩, k4⟩, z1⟩, z2⟩ := hk
            obtain ⟨_, _, rfl⟩ := tKey_some k1
            obtain ⟨_, _, rfl⟩ := tKey_some k2
            obtain ⟨_, _, rfl⟩ := tKey_some k3
            obtain ⟨_, _, rfl⟩ := tKey_some k4
            obtain ⟨_, _, rfl⟩ := isZero_some z1
            obtain ⟨_, _, rfl⟩ := isZero_some z2
            exact s_rtapeB (k1 := "") (k2 := "") (k3 := "") (k4 := "") c.ok (by rw [c.hN]; exact q1) (by rw [c.sc]; exact q2) q3 q4 hfr he
          · cases h
      · cases h
    · cases h
  · cases h
theorem snd_s {n : Nat} (c : COk X cls T S Φ j) (hp : PassesOwn (model X.prog X.w) X.A X.env X.xe) (pm : PmOk T P) (s : SndS cls T Φ j n X S P) : ∀ st, PS X st (tS (pmOf X cls) P (exS Φ (trS T (n + 1) S st))) := by
  intro st
  have se := snd_all cls T Φ j n
  have N1 : X.N.Nodup := by rw [c.hN]; exact c.nd
  unfold trS
  split
  · rename_i i f e h
    unfold tapeSet at h
    split at h
    · split at h
      · cases h
      · rename_i hc
        have hu := c.units
        split at h
        · rename_i h1 h2
          obtain ⟨q1, q2, q3, q4⟩ := slot_ok h1
          obtain ⟨kk, p, rfl⟩ := tKey_some h2
          split at h
          · rename_i q hk
            obtain ⟨f', tp'⟩ := q
            cases h
            have hk := keyI_some hk
            subst hk
            split
            · rename_i m hm
              rw [exS]
              exact s_tset (by omega) (by rw [c.hN]; exact q1) (by rw [c.sc]; exact q2) q3 q4 (se.e X S P c _ _ hm).1 (noComp_sw (by simpa using hc))
            · rw [exS]; exact stuck_ok
          · cases h
        · cases h
    · cases h
  rename_i h0
  clear h0
  split
  · rename_i i tp e h
    split
    · rename_i m hm
      rw [exS]
      exact snd_tret c pm h (se.e X S P c _ _ hm).1
    · rw [exS]; exact stuck_ok
  rename_i h0
  clear h0
  split
  · rw [exS]; exact ps_pass.weak fun _ _ _ h => seqNext h
  · rw [exS]; exact ps_break.weak fun _ _ _ h => seqBrk h
  · rw [exS]; exact ps_continue.weak fun _ _ _ h => seqCnt h
  · rw [exS]; exact ps_retN.weak fun _ _ _ h => seqRetN h
  · -- return e
    split
    · rename_i m h
      rw [exS]
      exact (ps_ret (se.e X S P c _ _ h).1).weak fun _ _ _ h => seqRet h
    · rw [exS]; exact stuck_ok
  · -- append
    split
    · rename_i hc
      rw [Bool.and_eq_true] at hc
      split
      · rename_i i m h1 h2
        obtain ⟨q1, q2, q3, q4⟩ := slot_ok h1
        rw [exS]
        exact s_app c.ok (by rw [c.hN]; exact q1) (by rw [c.sc]; exact q2) q3 q4 (se.e X S P c _ _ h2).1 ⟨attrBase rfl, star_one (by simpa using hc.1), hc.2⟩
      · rw [exS]; exact stuck_ok
    · rw [exS]; exact stuck_ok
  · -- extend
    split
    · rename_i hc
      rw [Bool.and_eq_true] at hc
      split
      · rename_i i m h1 h2
        obtain ⟨q1, q2, q3, q4⟩ := slot_ok h1
        rw [exS]
        exact s_ext c.ok (by rw [c.hN]; exact q1) (by rw [c.sc]; exact q2) q3 q4 (se.e X S P c _ _ h2).1 ⟨attrBase rfl, star_one (by simpa using hc.1), hc.2⟩
      · rw [exS]; exact stuck_ok
    · rw [exS]; exact stuck_ok
  · -- an expression
    split
    · rw [exS]; exact stuck_ok
    · rename_i hc
      split
      · rename_i m h
        rw [exS]
        exact (ps_expr' (se.e X S P c _ _ h).1 (by simpa using hc)).weak fun _ _ _ h => seqExpr h
      · rw [exS]; exact stuck_ok
  · -- name = e
    split
    · rename_i hs
      split
      · rename_i i m h1 h2
        split
        · split
          · rename_i hf
            rw [exS]
            exact (set_ok c hs h1 h2).weak fun _ _ _ h => seqSet c.ok (fun _ => freeB_ok pm hf) h
          · rw [exS]; exact stuck_ok
        · rw [exS]
          exact (set_ok c hs h1 h2).weak fun _ _ _ h => seqSet (own := false) c.ok (fun z => by cases z) h
      · rw [exS]; exact stuck_ok
    · rw [exS]; exact stuck_ok
  · -- a, b = x, y
    rename_i ts k1 p1 vs k2 p2 p3
    split
    · rename_i hc
      rw [Bool.and_eq_true, Bool.and_eq_true, Bool.and_eq_true] at hc
      obtain ⟨⟨⟨hn, hk⟩, hl⟩, hlim⟩ := hc
      have hl : ts.length = vs.length := of_decide_eq_true hl
      have hlim : ts.length ≤ lim := of_decide_eq_true hlim
      split
      · rename_i is xs ms h1 h2 h3
        split
        · rename_i hf
          have hfree : ∀ i ∈ is, Free P i := fun i hi => freeB_ok pm (List.all_eq_true.mp hf i hi)
          rw [exS]
          exact par_all c hn hk hl hlim h1 (by rw [List.length_map, namesOf_len h2]) h3 hfree
        · rw [exS]; exact stuck_ok
      · rw [exS]; exact stuck_ok
    · rw [exS]; exact stuck_ok
  · -- a, b = e
    split
    · rw [exS]; exact stuck_ok
    · rename_i hc
      split
      · rename_i is m h1 h2
        have hc' := hc
        rw [Bool.or_eq_true, not_or] at hc'
        rw [exS]
        exact (ps_asg (se.e X S P c _ _ h2).1 (trT_ok c (t := .tp is) (by show (trTs T S _).map MT.tp = _; rw [h1]; rfl)) (noComp_sw (by simpa using hc'.2)) (swap_other (by simpa using hc'.1)) rfl).weak fun D σ H h => seqUnp c.ok h
      · rw [exS]; exact stuck_ok
  · -- x[k] = v
    split
    · rw [exS]; exact stuck_ok
    · rename_i hc
      rw [Bool.or_eq_true, not_or] at hc
      split
      · rename_i i mk mv h1 h2 h3
        obtain ⟨q1, q2, q3, q4⟩ := slot_ok h1
        rw [exS]
        refine s_put c.ok c.units (by rw [c.hN]; exact q1) (by rw [c.sc]; exact q2) q3 q4 (se.e X S P c _ _ h2).1 (se.e X S P c _ _ h3).1 (sole (by simpa using hc.1)) rfl (assign_sub (by simpa using hc.2))
      · rw [exS]; exact stuck_ok
  · -- x.f = v
    split
    · rw [exS]; exact stuck_ok
    · rename_i hc
      split
      · rename_i i c' j' mv h1 h2 h3
        obtain ⟨q1, q2, q3, q4⟩ := slot_ok h1
        obtain ⟨z1, z2, C, ns, hcl, hC, hi, _⟩ := c.att _ c' _ h2
        obtain ⟨w1, w2, w3⟩ := hi j' rfl
        rw [exS]
        exact s_fld c.ok (by rw [c.hN]; exact q1) (by rw [c.sc]; exact q2) q3 q4 (se.e X S P c _ _ h3).1 ⟨z1, z2⟩ hcl w1 w2 hC w3 (noComp_sw (by simpa using hc))
      · rw [exS]; exact stuck_ok
  · -- x op= e
    split
    · rename_i hs
      split
      · rename_i i o m h1 h2 h3
        obtain ⟨l1, l2⟩ := c.st _ hs
        rw [exS, opM_ok h2]
        exact (ps_aug N1 (by rw [c.hN]; exact ixOf_ok h1) (by rw [c.sc]; exact l1) (se.e X S P c _ _ h3).1 pip_aug (by rw [c.sc]; exact l2)).weak fun D σ H h => seqAug c.ok h
      · rw [exS]; exact stuck_ok
    · rw [exS]; exact stuck_ok
  · -- if
    split
    · rename_i ht
      split
      · rename_i m h
        rw [exS]
        exact (ps_if ((se.e X S P c _ _ h).2.1 ht) (s.b _) (s.b _)).weak fun _ _ _ h => seqIf h
      · rw [exS]; exact stuck_ok
    · rw [exS]; exact stuck_ok
  · -- for
    split
    · rw [exS]; exact stuck_ok
    · rename_i hc
      split
      · rename_i t' i' h1 h2
        rw [exS]
        exact (ps_for hp c.calm (se.i X S P c _ _ _ h2) (trT_ok c h1) (s.b _) (noSet_fold (by simpa using hc))).weak fun _ _ _ h => seqFor h
      · rw [exS]; exact stuck_ok
  · -- while
    split
    · rename_i ht
      split
      · rename_i m h
        rw [exS]
        exact (ps_while hp ((se.e X S P c _ _ h).2.1 ht) (s.b _)).weak fun _ _ _ h => seqWhl h
      · rw [exS]; exact stuck_ok
    · rw [exS]; exact stuck_ok
  · rw [exS]; exact stuck_ok
theorem snd_sAll (c : COk X cls T S Φ j) (hp : PassesOwn (model X.prog X.w) X.A X.env X.xe) (pm : PmOk T P) : ∀ n, SndS cls T Φ j n X S P
  | 0 => ⟨fun st => (show PS X st (tS (pmOf X cls) P (exS Φ .stuck)) from stuck_ok), fun st => (show PSs X st (tS (pmOf X cls) P (exB Φ (.cons .stuck .nil))) from stuckB_ok)⟩
  | n + 1 => ⟨snd_s c hp pm (snd_sAll c hp pm n), snd_b (snd_sAll c hp pm n)⟩
end
end VL

set_option Elab.async false
set_option linter.all false
set_option maxRecDepth 100000
set_option maxHeartbeats 4000000
/-! V31: a def is what its translation says. -/
namespace VL
open PySem PySem.Spec PySem.W PyProof.Rows L2 StX

/-- what is known of the module, for the defs below T.lim -/
structure GOk (G : Program) (w : World) (K : Frag) (mg : Str → Option Value) (base : Heap) (cls : Nat → Option (Addr × List Str)) (T : TEnv) (Φ : Fns) (j : Nat) : Prop where
  ok : ∀ c ns, cls c = some ns → ns.2.length = nf c
  kok : KOk K cls
  num : ∀ x i, T.num x = some i → ∃ t, mg x = some (.int i t)
  fn : ∀ x f n dfl, T.fn x = some (f, n, dfl) → f < T.lim → (Φ f).mp = T.mp f ∧ ∃ a, mg x = some (.ref a) ∧ FnF G w K mg base cls (Φ f) n dfl j a
  cl : ∀ x c f, T.cl x = some (c, f) → c ≠ 0 ∧ c ≠ 99 ∧ ∃ C ns, mg x = some (.ref C) ∧ cls c = some (C, ns) ∧ (f < T.lim → (Φ f).mp = [0] ∧ (Φ f).fresh = false ∧ ∃ a n, Mk K C a ∧ FnF G w K mg base cls (Φ f) n [] j a)
  att : ∀ f c s, T.att f = some (c, s) → c ≠ 0 ∧ c ≠ 99 ∧ ∃ C ns, cls c = some (C, ns) ∧ Cls K C ∧ (∀ i, s = .inl i → ns[i]? = some f ∧ ns.Nodup ∧ NoAttr K C f) ∧ ∀ g, s = .inr g → g < T.lim → ∃ pr a, PropOf K C f pr a ∧ FnF G w K mg base cls (Φ g) 1 [] j a
  bt : ∀ x ∈ btNames, mg x = none
theorem slotsOf_get {mp : List Nat} {n : Nat} : ∀ {ds : List D} {j i : Nat}, (slotsOf mp n j ds)[i]? = (ds[i]?).map fun d => if j + i ∈ mp then SV.ow d else SV.sh d
  | [], _, _ => by simp [slotsOf]
  | d :: ds, j, 0 => by simp [slotsOf]
  | d :: ds, j, i + 1 => by
    have := slotsOf_get (mp := mp) (n := n) (ds := ds) (j := j + 1) (i := i)
    rw [show j + (i + 1) = j + 1 + i by omega]
    simpa [slotsOf] using this
theorem slotsOf_len {mp : List Nat} {n : Nat} : ∀ {ds : List D} {j : Nat}, (slotsOf mp n j ds).length = ds.length
  | [], _ => rfl
  | d :: ds, j => by simp [slotsOf, slotsOf_len]
theorem start0_get {mp : List Nat} {n : Nat} {ds : List D} {i : Nat} {w : SV} (h : (start0 mp n ds)[i]? = some w) : (∃ d, ds[i]? = some d ∧ w = if i ∈ mp then .ow d else .sh d) ∨ (ds.length ≤ i ∧ w = .un) := by
  unfold start0 at h
  by_cases hl : i < ds.length
  · rw [List.getElem?_append_left (by rw [slotsOf_len]; exact hl), slotsOf_get, List.getElem?_eq_getElem hl] at h
    cases h
    exact .inl ⟨_, List.getElem?_eq_getElem hl, by rw [Nat.zero_add]⟩
  · rw [List.getElem?_append_right (by rw [slotsOf_len]; omega), List.getElem?_replicate] at h
    split at h
    · cases h
      exact .inr ⟨by omega, rfl⟩
    · cases h
theorem start_get {N : List Str} {vs : List V} {i : Nat} {v : V} (h : vs[i]? = some v) : (L2.start N vs)[i]? = some (some v) := by
  unfold L2.start
  have hl := (List.getElem?_eq_some_iff.mp h).1
  rw [List.getElem?_append_left (by rw [List.length_map]; exact hl), List.getElem?_map, h]
  rfl
theorem ownsOf_get : ∀ {mp : List Nat} {ρ : Ev} {ms : List D}, ownsOf mp ρ = some ms → ms.length = mp.length ∧ ∀ (k i : Nat), mp[k]? = some i → ∃ d, ms[k]? = some d ∧ ρ[i]? = some (.ow d)
  | [], ρ, ms, h => by
    simp [ownsOf] at h
    subst h
    exact ⟨rfl, fun k i e => by simp at e⟩
  | i :: mp, ρ, ms, h => by
    rw [ownsOf] at h
    split at h
    · rename_i d ds h1 h2
      cases h
      obtain ⟨h3, h4⟩ := ownsOf_get h2
      refine ⟨by simp [h3], fun k j e => ?_⟩
      cases k with
      | zero =>
        simp at e
        subst e
        exact ⟨d, rfl, slotOw_some h1⟩
      | succ k =>
        obtain ⟨d', h5, h6⟩ := h4 k j (by simpa using e)
        exact ⟨d', by simpa using h5, h6⟩
    · cases h
def defM (mp : List Nat) (fresh : Bool) (n ps : Nat) (Φ : Fns) (b : MB) : MFn := ⟨mp, fresh, runB mp fresh n ps (exB Φ b)⟩
section
variable {G : Program} {w : World} {K : Frag} {mg : Str → Option Value} {base : Heap} {cls : Nat → Option (Addr × List Str)} {T : TEnv} {Φ : Fns} {j : Nat}
theorem body_go {p : Pm} {mp : List Nat} {fresh : Bool} {N : List Str} {n : Nat} {fb : FS} {vs : List V} {H : Hp} {Q : VK} {E : XK} (ok : POk p) (h : spV p ⟨mp, fresh, runB mp fresh N.length n fb⟩ n vs H Q E) : ∃ P : Pr, (∀ q ∈ P.prm, q.1 ∈ mp) ∧ tS p P fb { nx := fun _ H' => Q .non H', rt := Q } (L2.start N vs) H := by
  obtain ⟨hlen, F, ds, fp, hmp, hnd, A, wp0⟩ := h
  have hmp : ∀ i ∈ mp, i < n := hmp
  have hnd : mp.Nodup := hnd
  have A : ArgsAt p mp F H ds vs fp := A
  have lds : ds.length = n := by rw [A.len, hlen]
  refine ⟨⟨mp.filterMap fun i => (vs[i]?).map fun v => (i, v, fp i), fun _ _ _ => False⟩, fun q hq => ?_, ?_⟩
  · obtain ⟨i, hi, e⟩ := List.mem_filterMap.mp hq
    obtain ⟨v, _, e2⟩ := Option.map_eq_some_iff.mp e
    rw [← e2]
    exact hi
  generalize hP : (⟨mp.filterMap fun i => (vs[i]?).map fun v => (i, v, fp i), fun _ _ _ => False⟩ : Pr) = P
  have prm : ∀ i v, i ∈ mp → vs[i]? = some v → (i, v, fp i) ∈ P.prm := fun i v hi hv => by
    rw [← hP]
    exact List.mem_filterMap.mpr ⟨i, hi, by rw [hv]; rfl⟩
  obtain ⟨KK, hK, wp⟩ : ∃ KK : D × List D → Prop, (∀ r, KK r → ∀ F' H' v, Ext F H (Wa mp fp) F' H' (Wa mp fp) → Same F' H' →
    (if fresh = true then ∃ q, Own p F' H' r.1 v q ∧ ∀ a ∈ q, F' a = none ∧ H a = none else At p F' r.1 v) →
    r.2.length = mp.length →
    (∀ (k i : Nat), mp[k]? = some i → ∃ d w, r.2[k]? = some d ∧ vs[i]? = some w ∧ Own p F' H' d w (fp i) ∧ ∀ a ∈ fp i, F' a = none) → Q v H') ∧ wpR (fun _ => False) KK (runB mp fresh N.length n fb ds) := ⟨_, fun _ h => h, wp0⟩
  clear wp0
  unfold runB at wp
  by_cases hc : ds.length = n ∧ n ≤ N.length
  · rw [if_pos hc, wpR_bind] at wp
    have hnN : n ≤ N.length := hc.2
    have R0 : Rep p P F H (start0 mp N.length ds) (L2.start N vs) fp := by
      refine ⟨A.sub, ?_, fun i d e => ?_, fun i d e => ?_, fun i k d e hik h1 h2 => ?_, fun q hq d e => ?_⟩
      · unfold start0 L2.start
        rw [List.length_append, slotsOf_len, List.length_append, List.length_map, List.length_replicate, List.length_replicate, lds, hlen]
      · rcases start0_get e with ⟨d', h1, h2⟩ | ⟨_, h2⟩
        · split at h2
          · cases h2
          · rename_i hi
            cases h2
            obtain ⟨v, h3, h4⟩ := A.sh i d hi h1
            exact ⟨v, start_get h3, h4⟩
        · cases h2
      · rcases start0_get e with ⟨d', h1, h2⟩ | ⟨_, h2⟩
        · split at h2
          · rename_i hi
            cases h2
            obtain ⟨v, h3, h4, h5⟩ := A.ow i d hi h1
            exact ⟨v, start_get h3, h4, h5⟩
          · cases h2
        · cases h2
      · have im : ∀ (i : Nat) d, (start0 mp N.length ds)[i]? = some (.ow d) → i ∈ mp := fun i d e => by
          rcases start0_get e with ⟨d', h1, h2⟩ | ⟨_, h2⟩
          · split at h2
            · assumption
            · cases h2
          · cases h2
        exact A.dj i k hik (im i d h1) (im k e h2)
      · rw [← hP] at hq
        obtain ⟨i, hi, e1⟩ := List.mem_filterMap.mp hq
        obtain ⟨v, hv, e2⟩ := Option.map_eq_some_iff.mp e1
        rw [← e2]
        exact ⟨start_get hv, rfl⟩
    -- what is owned at the entry
    have WW : ∀ a, Wn (start0 mp N.length ds) fp a ↔ Wa mp fp a := fun a => by
      constructor
      · rintro ⟨i, d, e, ha⟩
        rcases start0_get e with ⟨d', h1, h2⟩ | ⟨_, h2⟩
        · split at h2
          · rename_i hi
            exact ⟨i, hi, ha⟩
          · cases h2
        · cases h2
      · rintro ⟨i, hi, ha⟩
        have hl : i < ds.length := by rw [lds]; exact hmp i hi
        refine ⟨i, ds[i], ?_, ha⟩
        unfold start0
        rw [List.getElem?_append_left (by rw [slotsOf_len]; exact hl), slotsOf_get, List.getElem?_eq_getElem hl, Nat.zero_add, Option.map_some, if_pos hi]
    have conv : ∀ {F' H' : Hp} {W' : Addr → Prop}, Ext F H (Wn (start0 mp N.length ds) fp) F' H' W' → Ext F H (Wa mp fp) F' H' (Wa mp fp) := fun {F' H' W'} E => ⟨E.same, fun a o e nw => E.keep a o e fun z => nw ((WW a).mp z), E.there, fun a h => by
      rcases E.newF a h with q | q | q
      · exact .inl q
      · exact .inr (.inl q)
      · exact .inr (.inr ((WW a).mp q)), fun a z => .inl z⟩
    -- the owned parameters at the end
    have outs : ∀ {F' H' : Hp} {ρ' : Ev} {σ' : L2.St} {fp' : Nat → List Addr} {ms : List D}, Rep p P F' H' ρ' σ' fp' → ownsOf mp ρ' = some ms → ∀ (k i : Nat), mp[k]? = some i → ∃ d w, ms[k]? = some d ∧ vs[i]? = some w ∧ Own p F' H' d w (fp i) ∧ ∀ a ∈ fp i, F' a = none := fun {F' H' ρ' σ' fp' ms} R e k i hk => by
      obtain ⟨d, h1, h2⟩ := (ownsOf_get e).2 k i hk
      obtain ⟨v, h3, h4, h5⟩ := R.ow i d h2
      have hi : i ∈ mp := List.mem_of_getElem? hk
      have hv : i < vs.length := by rw [hlen]; exact hmp i hi
      obtain ⟨q1, q2⟩ := R.prm _ (prm i vs[i] hi (List.getElem?_eq_getElem hv)) d h2
      rw [h3] at q1
      cases q1
      have q2 : fp' i = fp i := q2
      rw [q2] at h4 h5
      exact ⟨d, _, h1, List.getElem?_eq_getElem hv, h4, h5⟩
    refine ⟨F, start0 mp N.length ds, fp, R0, wpR_mono wp (fun _ z => z.elim) fun o k0 => ?_⟩
    cases o with
    | bk ρ' => exact k0.elim
    | ct ρ' => exact k0.elim
    | nx ρ' =>
      intro F' H' fp' σ' E' R'
      have k : wpR (fun _ => False) KK (if fresh = true then Res.bad else (do let ms ← ownsOf mp ρ'; pure (PyData.none, ms))) := k0
      split at k
      · exact k.elim
      · rename_i hf
        simp only [wpR_bind, wpR_lift, wpR_pure] at k
        obtain ⟨ms, hm, k⟩ := k
        have k := hK _ k F' H' .non (conv E') R'.sub
        rw [if_neg hf] at k
        exact k .non (ownsOf_get hm).1 (outs R' hm)
    | rt r ρ' =>
      intro F' H' fp' σ' v E' R' V'
      have k : wpR (fun _ => False) KK (do let x ← retR mp fresh r ρ'; let ms ← ownsOf mp x.2; pure (x.1, ms)) := k0
      clear k0 wp
      simp only [wpR_bind, wpR_lift, wpR_pure] at k
      obtain ⟨x, hx, ms, hm, k⟩ := k
      cases fresh with
      | false =>
        obtain ⟨F2, m2, R2, A2, s2⟩ := fz_ok ok R' V' (show _ = some (x.1, x.2) from hx)
        have k := hK _ k F2 H' v (conv (m2 (fun _ h => h) E')) R2.sub
        rw [if_neg (by decide)] at k
        exact k A2 (ownsOf_get hm).1 (outs R2 hm)
      | true =>
        cases r with
        | sh d => simp [retR] at hx
        | fr d =>
          simp [retR] at hx
          subst hx
          obtain ⟨q, o, hq⟩ := V'
          have k := hK _ k F' H' v (conv E') R'.sub
          rw [if_pos rfl] at k
          exact k ⟨q, o, fun a ha => ⟨(hq a ha).1, (hq a ha).2.1⟩⟩ (ownsOf_get hm).1 (outs R' hm)
        | ow i =>
          simp only [retR] at hx
          split at hx
          · cases hx
          · rename_i hi
            obtain ⟨d, hd, e⟩ := Option.map_eq_some_iff.mp hx
            subst e
            obtain ⟨v', h1, h2, h3⟩ := R'.ow i d (slotOw_some hd)
            have hv : σ'[i]? = some (some v) := V'
            rw [hv] at h1
            cases h1
            have k := hK _ k F' H' v (conv E') R'.sub
            rw [if_pos rfl] at k
            refine k ⟨fp' i, h2, fun a ha => ⟨h3 a ha, ?_⟩⟩ (ownsOf_get hm).1 (outs R' hm)
            rcases E'.newW a ⟨i, d, slotOw_some hd, ha⟩ with z | z
            · exfalso
              obtain ⟨l, hl, hla⟩ := (WW a).mp z
              obtain ⟨k', hk', rfl⟩ := List.getElem_of_mem hl
              obtain ⟨d2, _, h5⟩ := (ownsOf_get hm).2 k' _ (List.getElem?_eq_getElem hk')
              have hvl : mp[k'] < vs.length := by rw [hlen]; exact hmp _ hl
              obtain ⟨_, q2⟩ := R'.prm _ (prm _ vs[mp[k']] hl (List.getElem?_eq_getElem hvl)) d2 h5
              have q2 : fp' mp[k'] = fp mp[k'] := q2
              exact R'.dj i mp[k'] d d2 (fun z => hi (z ▸ hl)) (slotOw_some hd) h5 a ha (by rw [q2]; exact hla)
            · exact z
  · rw [if_neg hc] at wp
    exact wp.elim
theorem def_ok {x qual : Str} {params : Arguments} {body : List Stmt} {scope : Scope} {dvs : List V} {kws : List (Str × V)} {f : Addr} {fd : FuncData} {N ps : List Str} {mp : List Nat} {fresh : Bool} {b : MB} {n : Nat}
    (g : GOk G w K mg base cls T Φ j) (F : FunD K x qual params body scope dvs kws f fd) (S : FnScope N ps scope) (hN : T.N = N) (hpm : T.pm = mp) (tr : trB T n ⟨scope, scope⟩ body = b) : FnOk G w K mg base CX0 (j + 2) f fd ps (spV ⟨G, w, K, cls⟩ (defM mp fresh N.length ps.length Φ b) ps.length) := by
  refine F.ok S (fun vs H Q E h => h.1) fun cdv A outer s H vs Q E hr hsp => ?_
  obtain ⟨P, hp, ht⟩ := body_go (p := ⟨G, w, K, cls⟩) g.ok (show spV ⟨G, w, K, cls⟩ ⟨mp, fresh, runB mp fresh N.length ps.length (exB Φ b)⟩ ps.length vs H Q E from hsp)
  refine ⟨_, PSs.nox ?_, ht⟩
  have c : COk (cxOf CX0 G w K mg base N qual scope f cdv A outer s H E).nox cls T ⟨scope, scope⟩ Φ j := by
    refine ⟨rfl, hN.symm, by rw [hN]; exact S.nd, rfl, S.kind, fun x h => ?_, g.ok, g.kok, hr, g.num, g.fn, g.cl, g.att, g.bt⟩
    refine ⟨?_, .inl rfl⟩
    unfold storeB at h
    split at h
    · rename_i e; exact .inl e
    · rename_i e; exact .inr e
    · cases h
  have := (snd_sAll (P := P) c PassesOwn.never (fun q hq => by rw [hpm]; exact hp q hq) n).b body
  rw [tr] at this
  exact this
/-- THE RULE: a def of the text is what the translation of its body says -/
theorem def_fnF {x qual : Str} {params : Arguments} {body : List Stmt} {scope : Scope} {dvs : List V} {kws : List (Str × V)} {f : Addr} {fd : FuncData} {N ps : List Str} {mp : List Nat} {fresh : Bool} {b : MB} {n : Nat} {dfl : List D}
    (g : GOk G w K mg base cls T Φ j) (F : FunD K x qual params body scope dvs kws f fd) (S : FnScope N ps scope) (hN : T.N = N) (hpm : T.pm = mp) (tr : trB T n ⟨scope, scope⟩ body = b) (hnd : mp.Nodup)
    (hb : Binds K fd ps []) (hd : dfl ≠ [] → ∃ dvs ds, Binds K fd ps ds ∧ Vals dvs ds ∧ ∀ F, AtL ⟨G, w, K, cls⟩ F dfl dvs) : FnF G w K mg base cls (defM mp fresh N.length ps.length Φ b) ps.length dfl (j + 2) f := by
  refine ⟨hnd, fun ds h => ?_, F.kp, fd, ps, def_ok g F S hN hpm tr, hb, hd⟩
  show runB mp fresh N.length ps.length (exB Φ b) ds = .bad
  unfold runB
  rw [if_neg (fun z => h z.1)]
end
end VL

set_option Elab.async false
set_option linter.all false
set_option maxRecDepth 100000
/-! V32: the chain of a program's defs. -/
namespace VL
open PySem PySem.Spec PySem.W PyProof.Rows L2 StX

def AllP {α : Type} (P : α → Prop) : List α → Prop
  | [] => True
  | a :: l => P a ∧ AllP P l
theorem AllP.mem {α : Type} {P : α → Prop} : ∀ {l : List α}, AllP P l → ∀ a ∈ l, P a
  | [], _, a, h => by cases h
  | b :: l, h, a, ha => by
    rcases List.mem_cons.mp ha with rfl | ha
    · exact h.1
    · exact AllP.mem h.2 a ha
theorem lookup_in {α : Type} {x : Str} {v : α} : ∀ {l : List (Str × α)}, l.lookup x = some v → (x, v) ∈ l
  | [], h => by cases h
  | (y, u) :: r, h => by
    rw [List.lookup_cons] at h
    split at h
    · rename_i e
      have e := eq_of_beq e
      subst e
      cases h
      exact List.mem_cons_self
    · exact List.mem_cons_of_mem _ (lookup_in h)
def mBad : MFn := ⟨[], false, fun _ => .bad⟩
def tb (ms : List MFn) : Fns := fun i => ms.getD i mBad
def mkT (N : List Str) (fl : List (Str × Nat × Nat × List D)) (nl : List (Str × Int)) (cl : List (Str × Nat × Nat)) (al : List (Str × Nat × Sum Nat Nat)) (own : List Str) (pm : List Nat) (ms : List MFn) : TEnv :=
  ⟨N, fun x => List.lookup x fl, fun x => List.lookup x nl, fun x => List.lookup x cl, fun x => List.lookup x al, own, fun i => (tb ms i).mp, pm, ms.length⟩
section
variable (G : Program) (w : World) (K : Frag) (mg : Str → Option Value) (base : Heap) (cls : Nat → Option (Addr × List Str))
structure Mo : Prop where
  ok : ∀ c ns, cls c = some ns → ns.2.length = nf c
  kok : KOk K cls
  bt : ∀ x ∈ btNames, mg x = none
/-- the module's name x is a def that is what m says -/
def DefAt (x : Str) (m : MFn) (n : Nat) (dfl : List D) (j : Nat) : Prop := ∃ a, mg x = some (.ref a) ∧ FnF G w K mg base cls m n dfl j a
/-- the module's name x is the class number c, its __init__ is what m says -/
def ClsAt (x : Str) (c : Nat) (m : MFn) (j : Nat) : Prop := c ≠ 0 ∧ c ≠ 99 ∧ m.mp = [0] ∧ m.fresh = false ∧ ∃ C ns, mg x = some (.ref C) ∧ cls c = some (C, ns) ∧ ∃ a n, Mk K C a ∧ FnF G w K mg base cls m n [] j a
/-- .. is the class number c -/
def IsAt (x : Str) (c : Nat) : Prop := c ≠ 0 ∧ c ≠ 99 ∧ ∃ C ns, mg x = some (.ref C) ∧ cls c = some (C, ns)
/-- .. and, where the number i is a def's, its __init__ is that -/
def ClsX (ms : List MFn) (j : Nat) (q : Str × Nat × Nat) : Prop := if q.2.2 < ms.length then ClsAt G w K mg base cls q.1 q.2.1 (tb ms q.2.2) j else IsAt mg cls q.1 q.2.1
/-- a field -/
def FldAt (f : Str) (c i : Nat) : Prop := c ≠ 0 ∧ c ≠ 99 ∧ ∃ C ns, cls c = some (C, ns) ∧ Cls K C ∧ ns[i]? = some f ∧ ns.Nodup ∧ NoAttr K C f
/-- a property -/
def PrpAt (f : Str) (c : Nat) (m : MFn) (j : Nat) : Prop := c ≠ 0 ∧ c ≠ 99 ∧ ∃ C ns, cls c = some (C, ns) ∧ Cls K C ∧ ∃ pr a, PropOf K C f pr a ∧ FnF G w K mg base cls m 1 [] j a
def AttAt (Φ : Fns) (j : Nat) (q : Str × Nat × Sum Nat Nat) : Prop := match q.2.2 with
  | .inl i => FldAt K cls q.1 q.2.1 i
  | .inr g => PrpAt G w K mg base cls q.1 q.2.1 (Φ g) j
end
section
variable {G : Program} {w : World} {K : Frag} {mg : Str → Option Value} {base : Heap} {cls : Nat → Option (Addr × List Str)} {j : Nat}
theorem DefAt.mono {x : Str} {m : MFn} {n : Nat} {dfl : List D} {k : Nat} (h : DefAt G w K mg base cls x m n dfl j) (hj : j ≤ k) : DefAt G w K mg base cls x m n dfl k := by
  obtain ⟨a, h1, h2⟩ := h
  exact ⟨a, h1, h2.mono hj⟩
theorem ClsAt.mono {x : Str} {c : Nat} {m : MFn} {k : Nat} (h : ClsAt G w K mg base cls x c m j) (hj : j ≤ k) : ClsAt G w K mg base cls x c m k := by
  obtain ⟨h1, h2, h3, h4, C, ns, h5, h6, a, n, h7, h8⟩ := h
  exact ⟨h1, h2, h3, h4, C, ns, h5, h6, a, n, h7, h8.mono hj⟩
theorem PrpAt.mono {x : Str} {c : Nat} {m : MFn} {k : Nat} (h : PrpAt G w K mg base cls x c m j) (hj : j ≤ k) : PrpAt G w K mg base cls x c m k := by
  obtain ⟨h1, h2, C, ns, h3, h4, p, a, h5, h6⟩ := h
  exact ⟨h1, h2, C, ns, h3, h4, p, a, h5, h6.mono hj⟩
theorem ClsAt.x {ms : List MFn} {x : Str} {c i : Nat} (hi : i < ms.length) (h : ClsAt G w K mg base cls x c (tb ms i) j) : ClsX G w K mg base cls ms j (x, c, i) := by
  unfold ClsX
  rw [if_pos hi]
  exact h
theorem IsAt.x {ms : List MFn} {x : Str} {c i : Nat} (hi : ms.length ≤ i) (h : IsAt mg cls x c) : ClsX G w K mg base cls ms j (x, c, i) := by
  unfold ClsX
  rw [if_neg (show ¬ i < ms.length by omega)]
  exact h
theorem gok_mk {N : List Str} {fl : List (Str × Nat × Nat × List D)} {nl : List (Str × Int)} {cl : List (Str × Nat × Nat)} {al : List (Str × Nat × Sum Nat Nat)} {own : List Str} {pm : List Nat} {ms : List MFn} (M : Mo K mg cls)
    (hf : AllP (fun q => DefAt G w K mg base cls q.1 (tb ms q.2.1) q.2.2.1 q.2.2.2 j) fl) (hn : AllP (fun q => ∃ t, mg q.1 = some (.int q.2 t)) nl)
    (hc : AllP (ClsX G w K mg base cls ms j) cl) (ha : AllP (AttAt G w K mg base cls (tb ms) j) al) : GOk G w K mg base cls (mkT N fl nl cl al own pm ms) (tb ms) j where
  ok := M.ok
  kok := M.kok
  num := fun x i h => hn.mem _ (lookup_in h)
  fn := fun x f n dfl h _ => ⟨rfl, hf.mem _ (lookup_in h)⟩
  cl := fun x c f h => by
    have q := hc.mem _ (lookup_in h)
    unfold ClsX at q
    split at q
    · obtain ⟨h1, h2, h3, h4, C, ns, h5, h6, h7⟩ := q
      exact ⟨h1, h2, C, ns, h5, h6, fun _ => ⟨h3, h4, h7⟩⟩
    · rename_i hn
      obtain ⟨h1, h2, C, ns, h5, h6⟩ := q
      exact ⟨h1, h2, C, ns, h5, h6, fun z => absurd z hn⟩
  att := fun f c s h => by
    have q := ha.mem _ (lookup_in h)
    cases s with
    | inl i =>
      obtain ⟨h1, h2, C, ns, h3, h4, h5, h6, h7⟩ := (show FldAt K cls f c i from q)
      exact ⟨h1, h2, C, ns, h3, h4, fun i' e => by cases e; exact ⟨h5, h6, h7⟩, fun g e => by cases e⟩
    | inr g =>
      obtain ⟨h1, h2, C, ns, h3, h4, h5⟩ := (show PrpAt G w K mg base cls f c (tb ms g) j from q)
      exact ⟨h1, h2, C, ns, h3, h4, fun i' e => (by cases e), fun g' e _ => by cases e; exact h5⟩
  bt := M.bt
/-- the rule for a def of the chain -/
theorem def_fn {x qual : Str} {params : Arguments} {body : List Stmt} {scope : Scope} {dvs : List V} {kws : List (Str × V)} {f : Addr} {fd : FuncData} {N ps : List Str} {mp : List Nat} {fresh : Bool} {b : MB} {n : Nat} {dfl : List D}
    {fl : List (Str × Nat × Nat × List D)} {nl : List (Str × Int)} {cl : List (Str × Nat × Nat)} {al : List (Str × Nat × Sum Nat Nat)} {own : List Str} {ms : List MFn}
    (F : FunD K x qual params body scope dvs kws f fd) (M : Mo K mg cls) (S : FnScope N ps scope)
    (hf : AllP (fun q => DefAt G w K mg base cls q.1 (tb ms q.2.1) q.2.2.1 q.2.2.2 j) fl) (hn : AllP (fun q => ∃ t, mg q.1 = some (.int q.2 t)) nl)
    (hc : AllP (ClsX G w K mg base cls ms j) cl) (ha : AllP (AttAt G w K mg base cls (tb ms) j) al)
    (tr : trB (mkT N fl nl cl al own mp ms) n ⟨scope, scope⟩ body = b) (hnd : mp.Nodup)
    (hb : Binds K fd ps []) (hd : dfl ≠ [] → ∃ dvs ds, Binds K fd ps ds ∧ Vals dvs ds ∧ ∀ F, AtL ⟨G, w, K, cls⟩ F dfl dvs) : FnF G w K mg base cls (defM mp fresh N.length ps.length (tb ms) b) ps.length dfl (j + 2) f :=
  def_fnF (gok_mk M hf hn hc ha) F S rfl rfl tr hnd hb hd
/-- the law: no exception, its def at a given function object -/
theorem law_fn {x qual : Str} {params : Arguments} {body : List Stmt} {scope : Scope} {dvs : List V} {kws : List (Str × V)} {f : Addr} {fd : FuncData} {N ps : List Str} {mp : List Nat} {fresh : Bool} {b : MB} {n : Nat}
    {fl : List (Str × Nat × Nat × List D)} {nl : List (Str × Int)} {cl : List (Str × Nat × Nat)} {al : List (Str × Nat × Sum Nat Nat)} {own : List Str} {ms : List MFn}
    (F : FunD K x qual params body scope dvs kws f fd) (M : Mo K mg cls) (S : FnScope N ps scope)
    (hf : AllP (fun q => DefAt G w K mg base cls q.1 (tb ms q.2.1) q.2.2.1 q.2.2.2 j) fl) (hn : AllP (fun q => ∃ t, mg q.1 = some (.int q.2 t)) nl)
    (hc : AllP (ClsX G w K mg base cls ms j) cl) (ha : AllP (AttAt G w K mg base cls (tb ms) j) al)
    (tr : trB (mkT N fl nl cl al own mp ms) n ⟨scope, scope⟩ body = b) : FnOk G w K mg base CX0 (j + 2) f fd ps (spV ⟨G, w, K, cls⟩ (defM mp fresh N.length ps.length (tb ms) b) ps.length) :=
  def_ok (gok_mk M hf hn hc ha) F S rfl rfl tr
/-- the law's promise -/
theorem law_sp {p : Pm} {m : MFn} {ns : List Int} {a : Addr} {H : Hp} {E : XK} (hm : m.mp = []) (hf : m.fresh = false) (h : m.run [Dscr ns] = .ok (.bool true, [])) (hS : SqL p.K H a (ns.map V.int)) : spV p m 1 [.ref a] H (fun v _ => v = .bl true) E := by
  have hw : ∀ x, ¬ Wa m.mp (fun _ => []) x := fun x ⟨i, hi, _⟩ => by rw [hm] at hi; cases hi
  refine ⟨rfl, H, [Dscr ns], fun _ => [], fun i hi => (by rw [hm] at hi; cases hi), by rw [hm]; exact List.nodup_nil, ?_, ?_⟩
  · rw [hm]
    refine ⟨rfl, fun a o e => e, fun i d hi e => ?_, fun i d hi => (by cases hi), fun i j _ hi => (by cases hi)⟩
    cases i with
    | zero => cases e; exact ⟨_, rfl, .scr hS⟩
    | succ i => simp at e
  · rw [h]
    intro F' H' v _ _ hv _ _
    rw [hf] at hv
    rw [if_neg (by decide)] at hv
    cases hv
    rfl
/-- the binding of a def with one default: all arguments are written -/
theorem binds_full {x qual : Str} {params : Arguments} {body : List Stmt} {scope : Scope} {dvs : List V} {kws : List (Str × V)} {f : Addr} {fd : FuncData} {ps : List Str} (F : FunD K x qual params body scope dvs kws f fd) (n : Nat) (hn : n = ps.length) (hd : dvs.length = 1)
    (h : ∀ (T : Addr) (kV doc pm : Value) (an : Option Addr) (cdv ct : Value) (us its : List Value), us.length = n → its.length = 1 →
      ∃ k, bindArgs (fnOf x qual params body scope (.ref T) kV doc pm an cdv ct) ⟨us, []⟩ = seqItems? (.ref T) >>= k ∧ k (some its.toArray) = pure (ps.zip us)) : Binds K fd ps [] := by
  obtain ⟨ds, h1, h2⟩ := FunD.binds1 (dvs := dvs) (ps := ps) F n 1 (by intro z; rw [z] at hd; cases hd) (show n + (dvs.length - 1) = ps.length by omega) fun T kV doc pm an cdv ct us its e1 e2 => by
    obtain ⟨k, q1, q2⟩ := h T kV doc pm an cdv ct us its e1 (by rw [e2, hd])
    refine ⟨k, q1, ?_⟩
    rw [q2, show List.drop 1 its = [] from List.drop_of_length_le (by omega), List.append_nil]
  rw [show List.drop 1 dvs = [] from List.drop_of_length_le (by omega)] at h1
  cases h1
  exact h2
/-- the default None fills up -/
theorem binds_dfl {x qual : Str} {params : Arguments} {body : List Stmt} {scope : Scope} {kws : List (Str × V)} {f : Addr} {fd : FuncData} {ps : List Str} {p : Pm} (F : FunD K x qual params body scope [.non] kws f fd) (n : Nat) (hn : n + 1 = ps.length)
    (h : ∀ (T : Addr) (kV doc pm : Value) (an : Option Addr) (cdv ct : Value) (us its : List Value), us.length = n → its.length = 1 →
      ∃ k, bindArgs (fnOf x qual params body scope (.ref T) kV doc pm an cdv ct) ⟨us, []⟩ = seqItems? (.ref T) >>= k ∧ k (some its.toArray) = pure (ps.zip (us ++ its))) : ∃ dvs ds, Binds K fd ps ds ∧ Vals dvs ds ∧ ∀ F, AtL p F [PyData.none] dvs := by
  obtain ⟨ds, h1, h2⟩ := F.binds1 n 0 (by simp) (by simpa using hn) fun T kV doc pm an cdv ct us its e1 e2 => by
    obtain ⟨k, q1, q2⟩ := h T kV doc pm an cdv ct us its e1 e2
    exact ⟨k, q1, by rw [q2, List.drop_zero]⟩
  exact ⟨_, ds, h2, h1, fun F => .cons .non .nil⟩
end
end VL

set_option Elab.async false
set_option linter.all false
set_option maxRecDepth 100000
set_option maxHeartbeats 4000000
/-! V33: what the head tells: defs, classes, properties. -/
namespace VL
open PySem PySem.Spec PySem.W PyProof.Rows L2 He

/-! ### a property's getter -/
def prP (K : Frag) (q : Str × Option Str) : Addr := ma K (ga K q.1) (q.2.getD "")
def prG (K : Frag) (q : Str × Option Str) : Addr := match recIn K (prP K q) "property" with
  | some (.ref g :: _) => g
  | _ => 0
def fnA (K : Frag) (a : Addr) : FnW := match K.lookup a with
  | some ⟨_, _, .func fd, _⟩ => some (fd.name, fd.qualname, fd.params, fd.body, fd.scope, fd.globals, fd.closure, fd.builtins)
  | _ => none
def okA (K : Frag) (a : Addr) (d : DefD) : Bool := keepIn K (.ref a) && (match K.lookup a with
  | some ⟨_, _, .func fd, _⟩ => codeIn K fd.code d.qual && (dflB K fd.defaults (d.dvs K) && kwdB K fd.kwdefaults (d.kws K))
  | _ => false)
theorem funA {K : Frag} {a : Addr} {d : DefD} (e : fnA K a = d.val) (c : okA K a d = true) : ∃ fd, FunD K d.name d.qual d.params d.body d.scope (d.dvs K) (d.kws K) a fd := by
  unfold okA at c
  rw [Bool.and_eq_true] at c
  obtain ⟨kp, c2⟩ := c
  unfold fnA at e
  split at e
  · rename_i oc od fd osl q
    rw [q] at c2
    simp only [Bool.and_eq_true] at c2
    obtain ⟨k1, k3, k4⟩ := c2
    simp only [DefD.val, Option.some.injEq, Prod.mk.injEq] at e
    obtain ⟨h1, h2, h3, h4, h5, h6, h7, h8⟩ := e
    obtain ⟨n1, n2, n3, n4, n5, n6, n7, n8, n9, n10, n11, n12, n13, n14, n15⟩ := fd
    simp only at h1 h2 h3 h4 h5 h6 h7 h8 k1 k3 k4
    subst h1 h2 h3 h4 h5 h6 h7 h8
    exact ⟨_, ⟨oc, od, n8, n9, n10, n11, n12, n13, n14, osl, rfl, q, k1, dflB_ok k3, kwdB_ok k4⟩, kp⟩
  · cases e
def propB (K : Frag) (q : Str × Option Str) : Bool := eqO (findIn K (.ref (ga K q.1)) (q.2.getD "")) (some (some (.ref (prP K q)))) && (eqO (specialIn K (.ref (prP K q)) "__get__") (some (some (.builtin "property.__get__"))) && (decide (takesIn K (.ref (prP K q)) = some true) &&
  (match recIn K (prP K q) "property" with
  | some (.ref _ :: _) => true
  | _ => false)))
theorem prop_of {K : Frag} {q : Str × Option Str} (h : propB K q = true) : PropOf K (ga K q.1) (q.2.getD "") (prP K q) (prG K q) := by
  unfold propB at h
  simp only [Bool.and_eq_true] at h
  obtain ⟨h1, h2, h3, h4⟩ := h
  refine ⟨eqO_ok h1, eqO_ok h2, of_decide_eq_true h3, ?_⟩
  unfold prG
  split at h4
  · rename_i g rest e
    rw [e]
    exact ⟨rest, rfl⟩
  · cases h4

/-! ### the classes -/
/-- the text's classes: number, name, fields -/
abbrev Cl := Nat × Str × List Str
def clsOf (K : Frag) (cl : List Cl) : Nat → Option (Addr × List Str) := fun c => (cl.lookup c).map fun x => (ga K x.1, x.2)
def clB1 (K : Frag) (q : Cl) : Bool := (Fa.cls q.2.1).ok K && (eqO (findIn K (.ref (ga K q.2.1)) "__class__") (some (some (.builtin "object.__class__"))) && (decide (mroIn K (ga K q.2.1) (.type "object") = some true) && (decide (q.2.2.length = nf q.1) &&
  tyNames.all fun T => decide (kitOne K (.type T) (.ref (ga K q.2.1)) = some false) && decide (kitOne K (.ref (ga K q.2.1)) (.type T) = some false))))
def clB (K : Frag) (cl : List Cl) : Bool := eqO (specialIn K (.builtin "object.__class__") "__get__") (some (some (.builtin "getset_descriptor.__get__"))) && (decide (takesIn K (.builtin "object.__class__") = some true) && (cl.all (clB1 K) &&
  cl.all fun q => cl.all fun q' => decide (kitOne K (.ref (ga K q.2.1)) (.ref (ga K q'.2.1)) = some (decide (q.1 = q'.1)))))
theorem lookupN {α : Type} {c : Nat} {v : α} : ∀ {l : List (Nat × α)}, l.lookup c = some v → (c, v) ∈ l
  | [], h => by cases h
  | (y, u) :: r, h => by
    rw [List.lookup_cons] at h
    split at h
    · rename_i e
      have e := eq_of_beq e
      subst e
      cases h
      exact List.mem_cons_self
    · exact List.mem_cons_of_mem _ (lookupN h)
theorem clsOf_some {K : Frag} {cl : List Cl} {c : Nat} {C : Addr} {ns : List Str} (h : clsOf K cl c = some (C, ns)) : ∃ x, (c, x, ns) ∈ cl ∧ C = ga K x := by
  unfold clsOf at h
  obtain ⟨⟨x, ns'⟩, h1, h2⟩ := Option.map_eq_some_iff.mp h
  cases h2
  exact ⟨x, lookupN h1, rfl⟩
theorem kok_of {K : Frag} {cl : List Cl} (h : clB K cl = true) : KOk K (clsOf K cl) ∧ ∀ c ns, clsOf K cl c = some ns → ns.2.length = nf c := by
  unfold clB at h
  simp only [Bool.and_eq_true] at h
  obtain ⟨h1, h2, h3, h4⟩ := h
  have key : ∀ c C ns, clsOf K cl c = some (C, ns) → Cls K C ∧ findIn K (.ref C) "__class__" = some (some (.builtin "object.__class__")) ∧ mroIn K C (.type "object") = some true ∧ ns.length = nf c ∧ ∀ T ∈ tyNames, kitOne K (.type T) (.ref C) = some false ∧ kitOne K (.ref C) (.type T) = some false := by
    intro c C ns e
    obtain ⟨x, hx, rfl⟩ := clsOf_some e
    have q := List.all_eq_true.mp h3 _ hx
    unfold clB1 at q
    simp only [Bool.and_eq_true] at q
    obtain ⟨q1, q2, q3, q4, q5⟩ := q
    refine ⟨cls_ok q1, eqO_ok q2, of_decide_eq_true q3, of_decide_eq_true q4, fun T hT => ?_⟩
    have z := List.all_eq_true.mp q5 T hT
    rw [Bool.and_eq_true] at z
    exact ⟨of_decide_eq_true z.1, of_decide_eq_true z.2⟩
  refine ⟨⟨fun c C ns e => (key c C ns e).1, fun c C ns e => (key c C ns e).2.1, eqO_ok h1, of_decide_eq_true h2, fun c C ns e => (key c C ns e).2.2.1, fun c C ns e => (key c C ns e).2.2.2.2, fun c C ns c' C' ns' e e' => ?_⟩, fun c ns e => ?_⟩
  · obtain ⟨x, hx, rfl⟩ := clsOf_some e
    obtain ⟨x', hx', rfl⟩ := clsOf_some e'
    have q := List.all_eq_true.mp h4 _ hx
    exact of_decide_eq_true (List.all_eq_true.mp q _ hx')
  · obtain ⟨C, ns⟩ := ns
    exact (key c C ns e).2.2.2.1

/-! ### the Hook -/
abbrev AlV : Type := AlD × List FnW × Bool
def obsV (fa : List Fa) (fn pr : List DefD) (cl : List Cl) (K : Frag) : AlV := (obsD fa fn K, pr.map fun d => fnA K (prG K d.at_), (pr.all fun d => propB K d.at_ && okA K (prG K d.at_) d) && clB K cl)
def valV (fn pr : List DefD) : AlV := (valD fn, pr.map DefD.val, true)
def obsVG (as : List Addr) (fa : List Fa) (fn pr : List DefD) (cl : List Cl) (g : Addr → Option Obj) : AlV := obsV fa fn pr cl (frG g as)
def SaysV (fa : List Fa) (fn pr : List DefD) (cl : List Cl) (K : Frag) : Prop := obsV fa fn pr cl K = valV fn pr
def hookV (as : List Addr) (fa : List Fa) (fn pr : List DefD) (cl : List Cl) : Hook where
  α := AlV
  obs := fun s => obsVG as fa fn pr cl s.heap.get?
  val := fun _ => valV fn pr
  says := fun _ h => ∃ K : Frag, K.In h ∧ SaysV fa fn pr cl K
  of := fun _ _ e => ⟨_, frG_in, e⟩
  keeps := fun _ _ _ ⟨K, hK, c⟩ k => ⟨K, Frag.In.keeps hK k, c⟩
theorem obsVG_eq {as : List Addr} {fa : List Fa} {fn pr : List DefD} {cl : List Cl} {g : Addr → Option Obj} {s : Shared} (h : ∀ a, g a = s.heap.get? a) : obsVG as fa fn pr cl g = (hookV as fa fn pr cl).obs s := by
  have e : g = s.heap.get? := funext h
  rw [e] <;> rfl
/-- what the chain leans on -/
structure HK (fa : List Fa) (fn pr : List DefD) (cl : List Cl) (K : Frag) (mg : Str → Option Value) : Prop where
  c : SaysV fa fn pr cl K
  gl : ∀ x, (Fa.glo x).ok K = true → mg x = some (.ref (ga K x))
  fr : ∀ x, (Fa.free x).ok K = true → mg x = none
  it : ∀ x i, (Fa.int x i).ok K = true → ∃ t, mg x = some (.int i t)
theorem HK.of {fa : List Fa} {fn pr : List DefD} {cl : List Cl} {K : Frag} {mg : Str → Option Value} {h : Heap} (X : K.In h) (G : h.Ns mainGlobals mg) (c : SaysV fa fn pr cl K) : HK fa fn pr cl K mg :=
  ⟨c, fun x q => glo_ok X G q, fun x q => free_ok X G q, fun x i q => int_ok X G q⟩
section
variable {fa : List Fa} {fn pr : List DefD} {cl : List Cl} {K : Frag} {mg : Str → Option Value} (H : HK fa fn pr cl K mg)
include H
theorem HK.d : SaysD fa fn K := congrArg (fun z : AlV => z.1) H.c
theorem HK.fact (i : Nat) {f : Fa} (h : fa[i]? = some f) : f.ok K = true := H.d.fact i h
theorem HK.glo (i : Nat) {x : Str} (h : fa[i]? = some (.glo x)) : mg x = some (.ref (ga K x)) := H.gl x (H.fact i h)
theorem HK.num (i : Nat) {x : Str} {n : Int} (h : fa[i]? = some (.int x n)) : ∃ t, mg x = some (.int n t) := H.it x n (H.fact i h)
theorem HK.def_ (i : Nat) {d : DefD} (h : fn[i]? = some d) : ∃ fd, FunD K d.name d.qual d.params d.body d.scope (d.dvs K) (d.kws K) (fAd K d.at_) fd := H.d.def_ i h
theorem HK.clB : clB K cl = true := by
  have := congrArg (fun z : AlV => z.2.2) H.c
  exact (Bool.and_eq_true_iff.mp this).2
theorem HK.pr_ (i : Nat) {d : DefD} (h : pr[i]? = some d) : PropOf K (ga K d.at_.1) (d.at_.2.getD "") (prP K d.at_) (prG K d.at_) ∧ ∃ fd, FunD K d.name d.qual d.params d.body d.scope (d.dvs K) (d.kws K) (prG K d.at_) fd := by
  have c2 := (Bool.and_eq_true_iff.mp (show ((pr.all fun d => propB K d.at_ && okA K (prG K d.at_) d) && VL.clB K cl) = true from congrArg (fun z : AlV => z.2.2) H.c)).1
  have e : pr.map (fun d => fnA K (prG K d.at_)) = pr.map DefD.val := congrArg (fun z : AlV => z.2.1) H.c
  have e2 : (pr.map fun d => fnA K (prG K d.at_))[i]? = (pr.map DefD.val)[i]? := by rw [e]
  rw [List.getElem?_map, List.getElem?_map, h] at e2
  have q := List.all_eq_true.mp c2 d (List.mem_of_getElem? h)
  rw [Bool.and_eq_true] at q
  exact ⟨prop_of q.1, funA (Option.some.inj e2) q.2⟩
/-- the module -/
theorem HK.mo (hb : ∀ x ∈ btNames, ∃ i : Nat, fa[i]? = some (Fa.free x)) : Mo K mg (clsOf K cl) :=
  ⟨(kok_of H.clB).2, (kok_of H.clB).1, fun x hx => by
    obtain ⟨i, hi⟩ := hb x hx
    exact H.fr x (H.fact i hi)⟩
end
end VL

set_option linter.all false
set_option maxRecDepth 100000
/-! P1: rules to run the language of values. -/
namespace VL
open PySem PySem.W
section
variable {α β : Type}
@[simp] theorem ok_bind (a : α) (f : α → Res β) : (Res.ok a >>= f) = f a := rfl
@[simp] theorem bad_bind (f : α → Res β) : (Res.bad >>= f) = .bad := rfl
@[simp] theorem ex_bind (d : D) (f : α → Res β) : (Res.ex d >>= f) = .ex d := rfl
@[simp] theorem pure_ok (a : α) : (pure a : Res α) = .ok a := rfl
@[simp] theorem lift_some (a : α) : (liftM (some a) : Res α) = .ok a := rfl
@[simp] theorem lift_none : (liftM (none : Option α) : Res α) = .bad := rfl
@[simp] theorem mlift_some (a : α) : (MonadLift.monadLift (some a) : Res α) = .ok a := rfl
@[simp] theorem mlift_none : (MonadLift.monadLift (none : Option α) : Res α) = .bad := rfl
@[simp] theorem res_assoc {γ : Type} (x : Res α) (f : α → Res β) (g : β → Res γ) : ((x >>= f) >>= g) = (x >>= fun a => f a >>= g) := by
  cases x <;> rfl
@[simp] theorem noEx_ok (a : α) : (Res.ok a).noEx = .ok a := rfl
end
@[simp] theorem tb0 {m : MFn} {ms : List MFn} : tb (m :: ms) 0 = m := rfl
@[simp] theorem tb1 {m m1 : MFn} {ms : List MFn} : tb (m :: m1 :: ms) 1 = m1 := rfl
@[simp] theorem tb2 {m m1 m2 : MFn} {ms : List MFn} : tb (m :: m1 :: m2 :: ms) 2 = m2 := rfl
@[simp] theorem tb3 {m m1 m2 m3 : MFn} {ms : List MFn} : tb (m :: m1 :: m2 :: m3 :: ms) 3 = m3 := rfl
@[simp] theorem tb4 {m m1 m2 m3 m4 : MFn} {ms : List MFn} : tb (m :: m1 :: m2 :: m3 :: m4 :: ms) 4 = m4 := rfl
@[simp] theorem tb5 {m m1 m2 m3 m4 m5 : MFn} {ms : List MFn} : tb (m :: m1 :: m2 :: m3 :: m4 :: m5 :: ms) 5 = m5 := rfl
@[simp] theorem tb6 {m m1 m2 m3 m4 m5 m6 : MFn} {ms : List MFn} : tb (m :: m1 :: m2 :: m3 :: m4 :: m5 :: m6 :: ms) 6 = m6 := rfl
@[simp] theorem tb7 {m m1 m2 m3 m4 m5 m6 m7 : MFn} {ms : List MFn} : tb (m :: m1 :: m2 :: m3 :: m4 :: m5 :: m6 :: m7 :: ms) 7 = m7 := rfl
@[simp] theorem tb8 {m m1 m2 m3 m4 m5 m6 m7 m8 : MFn} {ms : List MFn} : tb (m :: m1 :: m2 :: m3 :: m4 :: m5 :: m6 :: m7 :: m8 :: ms) 8 = m8 := rfl
@[simp] theorem tb9 {m m1 m2 m3 m4 m5 m6 m7 m8 m9 : MFn} {ms : List MFn} : tb (m :: m1 :: m2 :: m3 :: m4 :: m5 :: m6 :: m7 :: m8 :: m9 :: ms) 9 = m9 := rfl
@[simp] theorem tb10 {m m1 m2 m3 m4 m5 m6 m7 m8 m9 m10 : MFn} {ms : List MFn} : tb (m :: m1 :: m2 :: m3 :: m4 :: m5 :: m6 :: m7 :: m8 :: m9 :: m10 :: ms) 10 = m10 := rfl
/-- a def's run, from the values of its parameters on -/
def endB (mp : List Nat) (fresh : Bool) : Out → Res (D × List D)
  | .nx ρ => if fresh then .bad else do
    let ms ← ownsOf mp ρ
    pure (.none, ms)
  | .rt r ρ => do
    let x ← retR mp fresh r ρ
    let ms ← ownsOf mp x.2
    pure (x.1, ms)
  | _ => .bad
theorem run_eq {mp fresh n ps Φ b} {ds : List D} (h : (decide (ds.length = ps) && decide (ps ≤ n)) = true) : (defM mp fresh n ps Φ b).run ds = (exB Φ b (start0 mp n ds) >>= endB mp fresh) := by
  rw [Bool.and_eq_true] at h
  show runB mp fresh n ps (exB Φ b) ds = _
  unfold runB
  rw [if_pos ⟨of_decide_eq_true h.1, of_decide_eq_true h.2⟩]
  rfl
@[simp] theorem endB_rt0 (d : D) (ρ : Ev) : endB [] false (.rt (.sh d) ρ) = .ok (d, []) := rfl
@[simp] theorem endB_nx0 (ρ : Ev) : endB [] false (.nx ρ) = .ok (.none, []) := rfl
theorem endB_fr0 (d : D) (ρ : Ev) (h : fzOk d = true) : endB [] false (.rt (.fr d) ρ) = .ok (d, []) := by
  simp [endB, retR, Rv.fz, h, ownsOf]
@[simp] theorem start0_nil {mp n} : start0 mp n [] = List.replicate n .un := rfl
@[simp] theorem defM_mp {mp fresh n ps Φ b} : (defM mp fresh n ps Φ b).mp = mp := rfl
@[simp] theorem defM_fresh {mp fresh n ps Φ b} : (defM mp fresh n ps Φ b).fresh = fresh := rfl
/-! ### the syntax, one node -/
section
variable {Φ : Fns}
@[simp] theorem ev_var {i} : ev Φ (.var i) = fVar i := by rw [ev]
@[simp] theorem ev_int {n} : ev Φ (.int n) = fC (.int n) := by rw [ev]
@[simp] theorem ev_bl {b} : ev Φ (.bl b) = fC (.bool b) := by rw [ev]
@[simp] theorem ev_non : ev Φ .non = fC .none := by rw [ev]
@[simp] theorem ev_bin {op a b} : ev Φ (.bin op a b) = fBin (ev Φ a) (ev Φ b) (binD op) := by rw [ev]
@[simp] theorem ev_neg {a} : ev Φ (.neg a) = fUn (ev Φ a) negD := by rw [ev]
@[simp] theorem ev_cmp {op a b} : ev Φ (.cmp op a b) = fBin (ev Φ a) (ev Φ b) (cmpR op) := by rw [ev]
@[simp] theorem ev_chain {op op' a b c} : ev Φ (.chain op op' a b c) = fChain (ev Φ a) (ev Φ b) (ev Φ c) op op' := by rw [ev]
@[simp] theorem ev_and {a b} : ev Φ (.and a b) = fAnd (ev Φ a) (ev Φ b) := by rw [ev]
@[simp] theorem ev_or {a b} : ev Φ (.or a b) = fOr (ev Φ a) (ev Φ b) := by rw [ev]
@[simp] theorem ev_not {a} : ev Φ (.not a) = fNot (ev Φ a) := by rw [ev]
@[simp] theorem ev_ite {c a b} : ev Φ (.ite c a b) = fIte (ev Φ c) (ev Φ a) (ev Φ b) := by rw [ev]
@[simp] theorem ev_tup {es} : ev Φ (.tup es) = fTup (evA Φ es) := by rw [ev]
@[simp] theorem ev_lst {es} : ev Φ (.lst es) = fLst (evA Φ es) := by rw [ev]
@[simp] theorem ev_dic0 : ev Φ .dic0 = fDic0 := by rw [ev]
@[simp] theorem ev_dic1 {k v} : ev Φ (.dic1 k v) = fDic1 (ev Φ k) (ev Φ v) := by rw [ev]
@[simp] theorem ev_call {f es dfl} : ev Φ (.call f es dfl) = fCall (Φ f) (evM Φ (Φ f).mp 0 es) dfl := by rw [ev]
@[simp] theorem ev_new {c f es} : ev Φ (.new c f es) = fNew (Φ f) c (evA Φ es) := by rw [ev]
@[simp] theorem ev_bi {b es} : ev Φ (.bi b es) = fBi b (evO Φ es) := by rw [ev]
@[simp] theorem ev_biv {b e} : ev Φ (.biv b e) = fUn (ev Φ e) (bivR b) := by rw [ev]
@[simp] theorem ev_lrng {e} : ev Φ (.lrng e) = lstRng (ev Φ e) := by rw [ev]
@[simp] theorem ev_ist {e ts} : ev Φ (.ist e ts) = fUn (ev Φ e) (istR ts) := by rw [ev]
@[simp] theorem ev_ix {a i} : ev Φ (.ix a i) = fBin (ev Φ a) (ev Φ i) ixR := by rw [ev]
@[simp] theorem ev_slc {a lo hi} : ev Φ (.slc a lo hi) = fSlc (ev Φ a) (evP Φ lo) (evP Φ hi) := by rw [ev]
@[simp] theorem ev_fld {e c j} : ev Φ (.fld e c j) = fUn (ev Φ e) (fldR c j) := by rw [ev]
@[simp] theorem ev_prop {e c f} : ev Φ (.prop e c f) = fProp (Φ f) c (ev Φ e) := by rw [ev]
@[simp] theorem ev_cnt {a e} : ev Φ (.cnt a e) = fMeth (ev Φ a) (ev Φ e) cntR := by rw [ev]
@[simp] theorem ev_pop {i e} : ev Φ (.pop i e) = fPop i (ev Φ e) := by rw [ev]
@[simp] theorem ev_tint {i f tp} : ev Φ (.tint i f tp) = fTint i f tp := by rw [ev]
@[simp] theorem ev_tcells {i} : ev Φ (.tcells i) = fTcells i := by rw [ev]
@[simp] theorem ev_tfull {i tp} : ev Φ (.tfull i tp) = fTfull i tp := by rw [ev]
@[simp] theorem ev_tpop {i tp} : ev Φ (.tpop i tp) = fTpop i tp := by rw [ev]
@[simp] theorem ev_comp {own t it cs e} : ev Φ (.comp own t it cs e) = fComp own t (evI Φ it) (evC Φ cs) (ev Φ e) := by rw [ev]
@[simp] theorem ev_comp2 {own own1 t it cs t1 it1 cs1 e} : ev Φ (.comp2 own own1 t it cs t1 it1 cs1 e) = fComp2 own own1 t (evI Φ it) (evC Φ cs) t1 (evI Φ it1) (evC Φ cs1) (ev Φ e) := by rw [ev]
@[simp] theorem ev_dcomp {own t it cs k v} : ev Φ (.dcomp own t it cs k v) = fDcomp own t (evI Φ it) (evC Φ cs) (ev Φ k) (ev Φ v) := by rw [ev]
@[simp] theorem evA_nil : evA Φ .nil = fNil := by rw [evA]
@[simp] theorem evA_cons {e r} : evA Φ (.cons e r) = fCons (ev Φ e) (evA Φ r) := by rw [evA]
@[simp] theorem evA_star {e r} : evA Φ (.star e r) = fStar (ev Φ e) (evA Φ r) := by rw [evA]
@[simp] theorem evO_nil : evO Φ .nil = oNil := by rw [evO]
@[simp] theorem evO_cons {e r} : evO Φ (.cons e r) = oCons (ev Φ e) (evO Φ r) := by rw [evO]
@[simp] theorem evC_nil : evC Φ .nil = cYes := by rw [evC]
@[simp] theorem evC_one {e} : evC Φ (.cons e .nil) = fTest (ev Φ e) := by rw [evC]
@[simp] theorem evP_nil : evP Φ .nil = fNoPart := by rw [evP]
@[simp] theorem evP_one {e} : evP Φ (.cons e .nil) = fPart (ev Φ e) := by rw [evP]
@[simp] theorem evI_seq {e} : evI Φ (.seq e) = iSeq (ev Φ e) := by rw [evI]
@[simp] theorem evI_rng1 {e} : evI Φ (.rng1 e) = iRng1 (ev Φ e) := by rw [evI]
@[simp] theorem evI_rng2 {a b} : evI Φ (.rng2 a b) = iRng2 (ev Φ a) (ev Φ b) := by rw [evI]
@[simp] theorem evI_enum {e} : evI Φ (.enum e) = iEnum (ev Φ e) := by rw [evI]
@[simp] theorem evI_zip {a b} : evI Φ (.zip a b) = iZip (ev Φ a) (ev Φ b) := by rw [evI]
@[simp] theorem evI_items {e} : evI Φ (.items e) = iItems (ev Φ e) := by rw [evI]
@[simp] theorem evI_cst {es} : evI Φ (.cst es) = evA Φ es := by rw [evI]
@[simp] theorem evM_nil {mp j} : evM Φ mp j .nil = oNil := by rw [evM]
@[simp] theorem evM_cons {mp j e r} : evM Φ mp j (.cons e r) = if j ∈ mp then mOwn (ev Φ e) (evM Φ mp (j + 1) r) else mCons (ev Φ e) (evM Φ mp (j + 1) r) := by rw [evM]
@[simp] theorem evPar_nil : evPar Φ [] .nil = pNil := by rw [evPar]
@[simp] theorem evPar_cons {b bs e r} : evPar Φ (b :: bs) (.cons e r) = pCons b (ev Φ e) (evPar Φ bs r) := by rw [evPar]
@[simp] theorem exS_pass : exS Φ .pass = sNext := by rw [exS]
@[simp] theorem exS_ret {e} : exS Φ (.ret e) = sRet (ev Φ e) := by rw [exS]
@[simp] theorem exS_retn : exS Φ .retn = sRet (fC .none) := by rw [exS]
@[simp] theorem exS_set {i own e} : exS Φ (.set i own e) = sSet i own (ev Φ e) := by rw [exS]
@[simp] theorem exS_par {is bs es} : exS Φ (.par is bs es) = sPar is (evPar Φ bs es) := by rw [exS]
@[simp] theorem exS_unp {is e} : exS Φ (.unp is e) = sUnp is (ev Φ e) := by rw [exS]
@[simp] theorem exS_aug {op i e} : exS Φ (.aug op i e) = sAug op i (ev Φ e) := by rw [exS]
@[simp] theorem exS_ite {c a b} : exS Φ (.ite c a b) = sIf (fTest (ev Φ c)) (exB Φ a) (exB Φ b) := by rw [exS]
@[simp] theorem exS_for {t it b} : exS Φ (.for_ t it b) = sFor t (evI Φ it) (exB Φ b) := by rw [exS]
@[simp] theorem exS_whl {c b} : exS Φ (.whl c b) = sWhl (fTest (ev Φ c)) (exB Φ b) := by rw [exS]
@[simp] theorem exS_expr {e} : exS Φ (.expr e) = sExpr (ev Φ e) := by rw [exS]
@[simp] theorem exS_app {i e} : exS Φ (.app i e) = sApp i (ev Φ e) appD := by rw [exS]
@[simp] theorem exS_ext {i e} : exS Φ (.ext i e) = sApp i (ev Φ e) extD := by rw [exS]
@[simp] theorem exS_put {i k v} : exS Φ (.put i k v) = sPut i (ev Φ k) (ev Φ v) := by rw [exS]
@[simp] theorem exS_sfld {i c j e} : exS Φ (.sfld i c j e) = sMut i (ev Φ e) (fldD c j) := by rw [exS]
@[simp] theorem exS_tset {i f tp e} : exS Φ (.tset i f tp e) = sTset i f tp (ev Φ e) := by rw [exS]
@[simp] theorem exS_rtape {i tp e} : exS Φ (.rtape i tp e) = sRtape i tp (ev Φ e) := by rw [exS]
@[simp] theorem exB_nil : exB Φ .nil = sNext := by rw [exB]
@[simp] theorem exB_one {s} : exB Φ (.cons s .nil) = exS Φ s := by rw [exB]
@[simp] theorem exB_cons {s s2 r} : exB Φ (.cons s (.cons s2 r)) = sSeq (exS Φ s) (exB Φ (.cons s2 r)) := by
  rw [exB]
  exact fun z => nomatch z
end
/-! ### the combinators, on a frame -/
section
variable {ρ : Ev} {fa fb fc : FE} {d : D}
@[simp] theorem fVar_eq {i : Nat} : fVar i ρ = (match ρ[i]? with
  | some (.sh d) => .ok (.sh d, ρ)
  | some (.ow _) => .ok (.ow i, ρ)
  | _ => .bad) := rfl
@[simp] theorem fC_eq : fC d ρ = .ok (.sh d, ρ) := rfl
@[simp] theorem fUn_eq {g} : fUn fa g ρ = (fa ρ >>= fun x => (liftM x.1.op : Res Rv) >>= fun a => (liftM (a.get x.2) : Res D) >>= fun y => (liftM (g y) : Res Rv) >>= fun r => .ok (r, x.2)) := rfl
@[simp] theorem fBin_eq {g} : fBin fa fb g ρ = (fa ρ >>= fun x => (liftM x.1.op : Res Rv) >>= fun a => fb x.2 >>= fun y => (liftM y.1.op : Res Rv) >>= fun b => (liftM (a.get y.2) : Res D) >>= fun c => (liftM (b.get y.2) : Res D) >>= fun d => (liftM (g c d) : Res Rv) >>= fun r => .ok (r, y.2)) := rfl
@[simp] theorem fTest_eq : fTest fa ρ = (fa ρ >>= fun x => (liftM (boolOf x.1) : Res Bool) >>= fun b => .ok (b, x.2)) := rfl
@[simp] theorem boolOf_sh {b : Bool} : boolOf (.sh (.bool b)) = some b := rfl
@[simp] theorem bl_eq {b : Bool} : bl b = .sh (.bool b) := rfl
@[simp] theorem op_sh : Rv.op (.sh d) = some (.sh d) := rfl
@[simp] theorem op_ow {i} : Rv.op (.ow i) = some (.ow i) := rfl
@[simp] theorem op_fr : Rv.op (.fr d) = if fzOk d then some (.sh d) else none := rfl
@[simp] theorem get_sh : Rv.get ρ (.sh d) = some d := rfl
@[simp] theorem get_ow {i} : Rv.get ρ (.ow i) = (match ρ[i]? with
  | some (.sh d) => some d
  | some (.ow d) => some d
  | _ => none) := rfl
@[simp] theorem fz_sh : Rv.fz ρ (.sh d) = some (d, ρ) := rfl
@[simp] theorem fz_fr : Rv.fz ρ (.fr d) = if fzOk d then some (d, ρ) else none := rfl
@[simp] theorem fz_ow {i} : Rv.fz ρ (.ow i) = (match ρ[i]? with
  | some (.sh d) => some (d, ρ)
  | some (.ow d) => if fzOk d then some (d, ρ.set i (.sh d)) else none
  | _ => none) := rfl
@[simp] theorem fAnd_eq : fAnd fa fb ρ = (fTest fa ρ >>= fun x => if x.1 then fb x.2 else .ok (bl false, x.2)) := rfl
@[simp] theorem fOr_eq : fOr fa fb ρ = (fTest fa ρ >>= fun x => if x.1 then .ok (bl true, x.2) else fb x.2) := rfl
@[simp] theorem fNot_eq : fNot fa ρ = (fTest fa ρ >>= fun x => .ok (bl (!x.1), x.2)) := rfl
@[simp] theorem fIte_eq : fIte fc fa fb ρ = (fTest fc ρ >>= fun x => if x.1 then fa x.2 else fb x.2) := rfl
@[simp] theorem fChain_eq {op op'} : fChain fa fb fc op op' ρ = (fa ρ >>= fun x => (liftM x.1.op : Res Rv) >>= fun a => fb x.2 >>= fun y => (liftM y.1.op : Res Rv) >>= fun b => (liftM (a.get y.2) : Res D) >>= fun c => (liftM (b.get y.2) : Res D) >>= fun d => (liftM (cmpD op c d) : Res Bool) >>= fun r =>
    if r then fc y.2 >>= fun z => (liftM z.1.op : Res Rv) >>= fun e => (liftM (b.get z.2) : Res D) >>= fun d' => (liftM (e.get z.2) : Res D) >>= fun e' => (liftM (cmpD op' d' e') : Res Bool) >>= fun r' => .ok (bl r', z.2) else .ok (bl false, y.2)) := rfl
@[simp] theorem fFz_eq : fFz fa ρ = (fa ρ >>= fun x => (liftM (x.1.fz x.2) : Res (D × Ev))) := rfl
@[simp] theorem fTup_eq {f : FA} : fTup f ρ = (f ρ >>= fun x => if x.1.length ≤ lim then .ok (.sh (.tuple x.1), x.2) else .bad) := rfl
@[simp] theorem fLst_eq {f : FA} : fLst f ρ = (f ρ >>= fun x => if x.1.length ≤ lim then .ok (.fr (.list x.1), x.2) else .bad) := rfl
@[simp] theorem fNil_eq : fNil ρ = .ok ([], ρ) := rfl
@[simp] theorem fCons_eq {f : FA} : fCons fa f ρ = (fFz fa ρ >>= fun x => f x.2 >>= fun y => .ok (x.1 :: y.1, y.2)) := rfl
@[simp] theorem fStar_eq {f : FA} : fStar fa f ρ = (fFz fa ρ >>= fun x => (liftM (seqOf x.1) : Res (List D)) >>= fun xs => f x.2 >>= fun y => .ok (xs ++ y.1, y.2)) := rfl
@[simp] theorem seqOf_t {xs} : seqOf (.tuple xs) = some xs := rfl
@[simp] theorem seqOf_l {xs} : seqOf (.list xs) = some xs := rfl
@[simp] theorem oNil_eq : oNil ρ = .ok ([], ρ) := rfl
@[simp] theorem oCons_eq {f : FR} : oCons fa f ρ = (fa ρ >>= fun x => (liftM x.1.op : Res Rv) >>= fun a => f x.2 >>= fun y => .ok (a :: y.1, y.2)) := rfl
@[simp] theorem mCons_eq {f : FR} : mCons fa f ρ = (fFz fa ρ >>= fun x => f x.2 >>= fun y => .ok (.sh x.1 :: y.1, y.2)) := rfl
@[simp] theorem mOwn_eq {f : FR} : mOwn fa f ρ = (fa ρ >>= fun x => match x.1 with
  | .ow i => f x.2 >>= fun y => .ok (.ow i :: y.1, y.2)
  | _ => .bad) := rfl
@[simp] theorem getsR_nil : getsR ρ [] = some [] := rfl
@[simp] theorem getsR_cons {r rs} : getsR ρ (r :: rs) = (match r.get ρ, getsR ρ rs with
    | some d, some ds => some (d :: ds)
    | _, _ => none) := rfl
@[simp] theorem mutSlots_nil {rs} : mutSlots [] rs = some [] := rfl
@[simp] theorem mutSlots_cons {j js rs} : mutSlots (j :: js) rs = (match rs[j]? with
    | some (.ow i) => (match mutSlots js rs with
      | some is => if i ∈ is then none else some (i :: is)
      | none => none)
    | _ => none) := rfl
@[simp] theorem allOwn_nil : allOwn [] ρ = true := rfl
@[simp] theorem allOwn_cons {i is} : allOwn (i :: is) ρ = ((match ρ[i]? with | some (.ow _) => true | _ => false) && allOwn is ρ) := rfl
@[simp] theorem putBack_nil : putBack [] [] ρ = some ρ := rfl
@[simp] theorem putBack_cons {i is d ds} : putBack (i :: is) (d :: ds) ρ = putBack is ds (ρ.set i (.ow d)) := rfl
@[simp] theorem fCall_eq {m : MFn} {f : FR} {dfl} : fCall m f dfl ρ = (f ρ >>= fun x => (liftM (mutSlots m.mp x.1) : Res (List Nat)) >>= fun is => (liftM (getsR x.2 x.1) : Res (List D)) >>= fun ds => (m.run (ds ++ dfl)).noEx >>= fun r =>
  if allOwn is x.2 then (liftM (putBack is r.2 x.2) : Res Ev) >>= fun ρ2 => .ok (if m.fresh then .fr r.1 else .sh r.1, ρ2) else .bad) := rfl
@[simp] theorem fNew_eq {m : MFn} {c} {f : FA} : fNew m c f ρ = (f ρ >>= fun x => (m.run (Dins c [] :: x.1)).noEx >>= fun r => match r with
  | (.none, [d]) => .ok (.fr d, x.2)
  | _ => .bad) := rfl
@[simp] theorem fBi_eq {b} {f : FR} : fBi b f ρ = (f ρ >>= fun x => (liftM (getsR x.2 x.1) : Res (List D)) >>= fun ds => (liftM (biD b ds) : Res Rv) >>= fun r => .ok (r, x.2)) := rfl
@[simp] theorem fProp_eq {m : MFn} {c} : fProp m c fa ρ = (fFz fa ρ >>= fun x => (m.run [x.1]).noEx >>= fun r => if propOk m c x.1 then .ok (.sh r.1, x.2) else .bad) := rfl
@[simp] theorem fSlc_eq {fl fh : FO} : fSlc fa fl fh ρ = (fa ρ >>= fun x => (liftM x.1.op : Res Rv) >>= fun a => fl x.2 >>= fun l => fh l.2 >>= fun h => (liftM (a.get h.2) : Res D) >>= fun d => (liftM (cutR d l.1 h.1) : Res Rv) >>= fun r => .ok (r, h.2)) := rfl
@[simp] theorem fNoPart_eq : fNoPart ρ = .ok (none, ρ) := rfl
@[simp] theorem fPart_eq : fPart fa ρ = (fa ρ >>= fun x => match x.1 with
  | .sh (.int i) => if i.natAbs ≤ lim then .ok (some i, x.2) else .bad
  | _ => .bad) := rfl
@[simp] theorem fDic0_eq : fDic0 ρ = .ok (.fr (.dict []), ρ) := rfl
@[simp] theorem fDic1_eq : fDic1 fa fb ρ = (fFz fa ρ >>= fun x => fFz fb x.2 >>= fun y => (liftM (dic1 x.1 y.1) : Res Rv) >>= fun r => .ok (r, y.2)) := rfl
@[simp] theorem fPop_eq {i} : fPop i fa ρ = if slotLst i ρ then (fa ρ >>= fun x => (liftM (popR x.1 x.2[i]?) : Res (D × D)) >>= fun y => .ok (.sh y.1, x.2.set i (.ow y.2))) else .bad := rfl
@[simp] theorem fMeth_eq {g} : fMeth fa fb g ρ = (fa ρ >>= fun x => (liftM x.1.op : Res Rv) >>= fun a => (liftM (a.get x.2) : Res D) >>= fun c0 => if isLst c0 then (fb x.2 >>= fun y => (liftM y.1.op : Res Rv) >>= fun b => (liftM (a.get y.2) : Res D) >>= fun c => (liftM (b.get y.2) : Res D) >>= fun d => (liftM (g c d) : Res Rv) >>= fun r => .ok (r, y.2)) else .bad) := rfl
@[simp] theorem cYes_eq : cYes ρ = .ok (true, ρ) := rfl
@[simp] theorem iSeq_eq : iSeq fa ρ = (fFz fa ρ >>= fun x => (liftM (itemsOf x.1) : Res (List D)) >>= fun ds => .ok (ds, x.2)) := rfl
@[simp] theorem iRng1_eq : iRng1 fa ρ = (fa ρ >>= fun x => match x.1 with
  | .sh (.int n) => if n ≤ lim ∧ -lim ≤ n then .ok (rngD 0 n.toNat, x.2) else .bad
  | _ => .bad) := rfl
@[simp] theorem iEnum_eq : iEnum fa ρ = (fFz fa ρ >>= fun x => (liftM (seqOf x.1) : Res (List D)) >>= fun xs => .ok (enumD 0 xs, x.2)) := rfl
@[simp] theorem iZip_eq : iZip fa fb ρ = (fFz fa ρ >>= fun x => fFz fb x.2 >>= fun y => (liftM (zipR x.1 y.1) : Res (List D)) >>= fun ds => .ok (ds, y.2)) := rfl
@[simp] theorem iItems_eq : iItems fa ρ = (fFz fa ρ >>= fun x => (liftM (itmR x.1) : Res (List D)) >>= fun ds => .ok (ds, x.2)) := rfl
/-! statements -/
@[simp] theorem sNext_eq : sNext ρ = .ok (.nx ρ) := rfl
@[simp] theorem sRet_eq : sRet fa ρ = (fa ρ >>= fun x => .ok (.rt x.1 x.2)) := rfl
@[simp] theorem sSeq_eq {f g : FS} : sSeq f g ρ = (f ρ >>= fun o => match o with
  | .nx ρ' => g ρ'
  | .rt r ρ' => .ok (.rt r ρ')
  | .bk ρ' => .ok (.bk ρ')
  | .ct ρ' => .ok (.ct ρ')) := rfl
@[simp] theorem sSet_eq {i own} : sSet i own fa ρ = (fa ρ >>= fun x => (liftM (keepR own x.1 x.2) : Res (SV × Ev)) >>= fun y => if i < y.2.length then .ok (.nx (y.2.set i y.1)) else .bad) := rfl
@[simp] theorem keepR_fr : keepR true (.fr d) ρ = some (.ow d, ρ) := rfl
@[simp] theorem keepR_f {r : Rv} : keepR false r ρ = (r.fz ρ).map fun x => (.sh x.1, x.2) := by
  cases r <;> rfl
@[simp] theorem sExpr_eq : sExpr fa ρ = (fa ρ >>= fun x => .ok (.nx x.2)) := rfl
@[simp] theorem sIf_eq {f : FC} {g h : FS} : sIf f g h ρ = (f ρ >>= fun x => if x.1 then g x.2 else h x.2) := rfl
@[simp] theorem sFor_eq {t} {f : FA} {g : FS} : sFor t f g ρ = (f ρ >>= fun x => loopF (turnF t g) x.1 x.2) := rfl
@[simp] theorem sWhl_eq {f : FC} {g : FS} : sWhl f g ρ = loopW f g fuel ρ := rfl
@[simp] theorem sPar_eq {is} {f} : sPar is f ρ = (f ρ >>= fun x => (liftM (setsV is x.1 x.2) : Res Ev) >>= fun ρ' => .ok (.nx ρ')) := rfl
@[simp] theorem pNil_eq : pNil ρ = .ok ([], ρ) := rfl
@[simp] theorem pCons_eq {own} {f} : pCons own fa f ρ = (fa ρ >>= fun x => (liftM (keepR own x.1 x.2) : Res (SV × Ev)) >>= fun y => f y.2 >>= fun z => .ok (y.1 :: z.1, z.2)) := rfl
@[simp] theorem setsV_nil : setsV [] [] ρ = some ρ := rfl
@[simp] theorem setsV_cons {i is v vs} : setsV (i :: is) (v :: vs) ρ = if i < ρ.length then setsV is vs (ρ.set i v) else none := rfl
@[simp] theorem sUnp_eq {is} : sUnp is fa ρ = (fFz fa ρ >>= fun x => (liftM (asgT (.tp is) x.1 x.2) : Res Ev) >>= fun ρ' => .ok (.nx ρ')) := rfl
@[simp] theorem sAug_eq {op i} : sAug op i fa ρ = (match ρ[i]? with
  | some (.sh d) => fa ρ >>= fun x => (liftM x.1.op : Res Rv) >>= fun a => (liftM (a.get x.2) : Res D) >>= fun y => (liftM (augR op d y) : Res Rv) >>= fun z => match z with
    | .sh r => .ok (.nx (x.2.set i (.sh r)))
    | _ => .bad
  | _ => .bad) := rfl
@[simp] theorem slotOw_eq {i} : slotOw i ρ = (match ρ[i]? with
  | some (.ow d) => some d
  | _ => none) := rfl
@[simp] theorem slotLst_eq {i} : slotLst i ρ = (match ρ[i]? with
  | some (.ow d) => isLst d
  | _ => false) := rfl
@[simp] theorem isLst_l {ds} : isLst (.list ds) = true := rfl
@[simp] theorem sApp_eq {i g} : sApp i fa g ρ = if slotLst i ρ then (fFz fa ρ >>= fun x => (liftM (slotOw i x.2) : Res D) >>= fun d => (liftM (g d x.1) : Res D) >>= fun d' => .ok (.nx (x.2.set i (.ow d')))) else .bad := rfl
@[simp] theorem sMut_eq {i g} : sMut i fa g ρ = (fFz fa ρ >>= fun x => (liftM (slotOw i x.2) : Res D) >>= fun d => (liftM (g d x.1) : Res D) >>= fun d' => .ok (.nx (x.2.set i (.ow d')))) := rfl
@[simp] theorem sPut_eq {i} : sPut i fa fb ρ = ((liftM (slotOw i ρ) : Res D) >>= fun _ => fFz fb ρ >>= fun v => fFz fa v.2 >>= fun k => (liftM (slotOw i k.2) : Res D) >>= fun d => (liftM (putD d k.1 v.1) : Res D) >>= fun d' => .ok (.nx (k.2.set i (.ow d')))) := rfl
@[simp] theorem asgT_nm {i} : asgT (.nm i) d ρ = some (ρ.set i (.sh d)) := rfl
@[simp] theorem asgT_tp {is ds} : asgT (.tp is) (.tuple ds) ρ = setAll is ds ρ := rfl
@[simp] theorem setAll_nil : setAll [] [] ρ = some ρ := rfl
@[simp] theorem setAll_cons {i is d ds} : setAll (i :: is) (d :: ds) ρ = setAll is ds (ρ.set i (.sh d)) := rfl
@[simp] theorem wipeE_nil : wipeE [] ρ = ρ := rfl
@[simp] theorem wipeE_cons {i is} : wipeE (i :: is) ρ = (wipeE is ρ).set i .un := rfl
@[simp] theorem slotsOf_nil {mp n j} : slotsOf mp n j [] = [] := rfl
@[simp] theorem slotsOf_cons {mp n j ds} : slotsOf mp n j (d :: ds) = (if j ∈ mp then .ow d else .sh d) :: slotsOf mp n (j + 1) ds := rfl
@[simp] theorem start0_eq {mp n ds} : start0 mp n ds = slotsOf mp n 0 ds ++ List.replicate (n - ds.length) .un := rfl
@[simp] theorem ownsOf_nil : ownsOf [] ρ = some [] := rfl
@[simp] theorem ownsOf_cons {i is} : ownsOf (i :: is) ρ = (match slotOw i ρ, ownsOf is ρ with
    | some d, some ds => some (d :: ds)
    | _, _ => none) := rfl
@[simp] theorem endB_rt {mp fresh r} : endB mp fresh (.rt r ρ) = ((liftM (retR mp fresh r ρ) : Res (D × Ev)) >>= fun x => (liftM (ownsOf mp x.2) : Res (List D)) >>= fun ms => .ok (x.1, ms)) := rfl
@[simp] theorem endB_nx {mp} : endB mp false (.nx ρ) = ((liftM (ownsOf mp ρ) : Res (List D)) >>= fun ms => .ok (.none, ms)) := rfl
@[simp] theorem retR_f {mp} {r : Rv} : retR mp false r ρ = r.fz ρ := by
  cases r <;> rfl
@[simp] theorem retR_fr {mp} : retR mp true (.fr d) ρ = some (d, ρ) := rfl
@[simp] theorem retR_ow {mp i} : retR mp true (.ow i) ρ = if i ∈ mp then none else (slotOw i ρ).map fun d => (d, ρ) := rfl
end
/-! ### data -/
@[simp] theorem fzOk_list {ds} : fzOk (.list ds) = true := rfl
@[simp] theorem fzOk_tuple {ds} : fzOk (.tuple ds) = true := rfl
@[simp] theorem fzOk_int {i} : fzOk (.int i) = true := rfl
@[simp] theorem addD_int {i j} : addD (.int i) (.int j) = some (.sh (.int (i + j))) := rfl
@[simp] theorem addD_list {a b} : addD (.list a) (.list b) = if a.length + b.length ≤ lim then some (.fr (.list (a ++ b))) else none := rfl
@[simp] theorem addD_tuple {a b} : addD (.tuple a) (.tuple b) = if a.length + b.length ≤ lim then some (.sh (.tuple (a ++ b))) else none := rfl
@[simp] theorem subD_int {i j} : subD (.int i) (.int j) = some (.sh (.int (i - j))) := rfl
@[simp] theorem binD_add : binD .add = addD := rfl
@[simp] theorem binD_sub : binD .sub = subD := rfl
@[simp] theorem binD_mul : binD .mul = mulD := rfl
@[simp] theorem binD_mod : binD .mod = modD := rfl
@[simp] theorem binD_fdiv : binD .fdiv = fdivD := rfl
@[simp] theorem binD_pow : binD .pow = powD := rfl
@[simp] theorem augR_add {i j} : augR .add (.int i) (.int j) = some (.sh (.int (i + j))) := rfl
@[simp] theorem negD_int {i} : negD (.int i) = some (.sh (.int (-i))) := rfl
@[simp] theorem cmpR_eq {op x y} : cmpR op x y = (cmpD op x y).map bl := rfl
@[simp] theorem cmpD_eq {x y} : cmpD .eq x y = eqD x y := rfl
@[simp] theorem cmpD_ne {x y} : cmpD .ne x y = (eqD x y).map (!·) := rfl
@[simp] theorem cmpD_lt {x y} : cmpD .lt x y = ltD x y := rfl
@[simp] theorem cmpD_gt {x y} : cmpD .gt x y = gtD x y := rfl
@[simp] theorem cmpD_le {x y} : cmpD .le x y = (gtD x y).map (!·) := rfl
@[simp] theorem cmpD_ge {x y} : cmpD .ge x y = (ltD x y).map (!·) := rfl
@[simp] theorem cmpD_in {x y} : cmpD .isin x y = inD x y := rfl
@[simp] theorem cmpD_notin {x y} : cmpD .notin x y = (inD x y).map (!·) := rfl
@[simp] theorem cmpD_isN {x} : cmpD .isN x .none = some (!notNone x) := rfl
@[simp] theorem cmpD_notN {x} : cmpD .notN x .none = some (notNone x) := by
  show (isND x .none).map _ = _
  simp [isND]
@[simp] theorem notNone_n : notNone .none = false := rfl
@[simp] theorem notNone_int {i} : notNone (.int i) = true := rfl
@[simp] theorem eqD_int {i j} : eqD (.int i) (.int j) = some (decide (i = j)) := by
  simp [eqD, okD, PyData.canLay0, PyData.depth, PyData.eqv]
  by_cases h : i = j <;> simp [h]
@[simp] theorem eqD_bool {i j} : eqD (.bool i) (.bool j) = some (decide (i = j)) := by
  simp [eqD, okD, PyData.canLay0, PyData.depth, PyData.eqv]
  cases i <;> cases j <;> rfl
@[simp] theorem gtD_int {i j} : gtD (.int i) (.int j) = some (decide (j < i)) := by
  simp [gtD, okD, alike, PyData.canLay0, PyData.depth, dataLt_int]
@[simp] theorem ltD_int {i j} : ltD (.int i) (.int j) = some (decide (i < j)) := by
  simp [ltD, okD, alike, PyData.canLay0, PyData.depth, dataLt_int]
@[simp] theorem ixR_eq {x y} : ixR x y = (ixD x y).map .sh := rfl
@[simp] theorem istR_eq {ts d} : istR ts d = if istOk d then some (bl (ts.any (isTy d))) else none := rfl
@[simp] theorem fuel_pos : 1000000 < fuel := by decide
end VL

set_option linter.all false
set_option maxRecDepth 100000
/-! P2: how typed values lie among the data. -/
namespace VL
open PySem PySem.W PyProof.Rows
variable {α β γ : Type}
def eT (e : α → D) (l : List α) : D := .tuple (l.map e)
def eL (e : α → D) (l : List α) : D := .list (l.map e)
def eP (e : α → D) (f : β → D) (p : α × β) : D := .tuple [e p.1, f p.2]
/-- its equality is the typed one -/
class EncF [DecidableEq α] (e : α → D) : Prop where
  eqv : ∀ a b, PyData.eqv (e a) (e b) = decide (a = b)
  lay : ∀ a, (e a).canLay0 = true
class DepF (e : α → D) (n : outParam Nat) : Prop where
  dep : ∀ a, (e a).depth ≤ n
/-- its order -/
class OrdF [DecidableEq α] (e : α → D) (lt : outParam (α → α → Bool)) : Prop where
  alike : ∀ a b, PySem.W.alike (e a) (e b) = true
  lt : ∀ a b, dataLt (e a) (e b) = lt a b
  nn : ∀ a, notNone (e a) = true
/-- a strict total order -/
class LtOk (lt : α → α → Bool) : Prop where
  irr : ∀ a, lt a a = false
  tr : ∀ a b c, lt a b = true → lt b c = true → lt a c = true
  tri : ∀ a b, lt a b = false → lt b a = false → a = b
theorem eqvAll_map [DecidableEq α] {e : α → D} [h : EncF e] : ∀ (a b : List α), PyData.eqvAll (a.map e) (b.map e) = decide (a = b)
  | [], [] => rfl
  | [], _ :: _ => by simp [PyData.eqvAll]
  | _ :: _, [] => by simp [PyData.eqvAll]
  | x :: a, y :: b => by
    simp only [List.map_cons, PyData.eqvAll, h.eqv, eqvAll_map a b]
    by_cases q : x = y <;> simp [q]
theorem layAll_map [DecidableEq α] {e : α → D} [h : EncF e] : ∀ (a : List α), PyData.canLayAll0 (a.map e) = true
  | [] => rfl
  | x :: a => by simp [PyData.canLayAll0, h.lay, layAll_map a]
theorem depAll_map {e : α → D} {n : Nat} [h : DepF e n] : ∀ (a : List α), PyData.depthAll (a.map e) ≤ n
  | [] => by simp [PyData.depthAll]
  | x :: a => by
    have := depAll_map (e := e) a
    have := h.dep x
    simp [PyData.depthAll]
    omega
instance : EncF PyData.int := ⟨fun a b => by simp [PyData.eqv]; rfl, fun a => by simp [PyData.canLay0]⟩
instance : DepF PyData.int 0 := ⟨fun a => by simp [PyData.depth]⟩
instance [DecidableEq α] {e : α → D} [EncF e] : EncF (eT e) := ⟨fun a b => by simp [eT, PyData.eqv, eqvAll_map], fun a => by simp [eT, PyData.canLay0, layAll_map]⟩
instance [DecidableEq α] {e : α → D} [EncF e] : EncF (eL e) := ⟨fun a b => by simp [eL, PyData.eqv, eqvAll_map], fun a => by simp [eL, PyData.canLay0, layAll_map]⟩
instance [DecidableEq α] [DecidableEq β] {e : α → D} {f : β → D} [h : EncF e] [k : EncF f] : EncF (eP e f) := ⟨fun a b => by
  obtain ⟨a1, a2⟩ := a
  obtain ⟨b1, b2⟩ := b
  simp only [eP, PyData.eqv, PyData.eqvAll, h.eqv, k.eqv]
  by_cases q : a1 = b1 <;> by_cases r : a2 = b2 <;> simp [q, r], fun a => by simp [eP, PyData.canLay0, PyData.canLayAll0, h.lay, k.lay]⟩
instance {e : α → D} {n : Nat} [DepF e n] : DepF (eT e) (n + 1) := ⟨fun a => by
  have := depAll_map (e := e) a
  simp [eT, PyData.depth]
  omega⟩
instance {e : α → D} {n : Nat} [DepF e n] : DepF (eL e) (n + 1) := ⟨fun a => by
  have := depAll_map (e := e) a
  simp [eL, PyData.depth]
  omega⟩
instance {e : α → D} {f : β → D} {n m : Nat} [h : DepF e n] [k : DepF f m] : DepF (eP e f) (n + m + 1) := ⟨fun a => by
  have := h.dep a.1
  have := k.dep a.2
  simp [eP, PyData.depth, PyData.depthAll]
  omega⟩
theorem okD_enc [DecidableEq α] {e : α → D} {n : Nat} [h : EncF e] [k : DepF e n] (hn : n ≤ 20 := by decide) (a : α) : okD (e a) = true := by
  have := k.dep a
  simp [okD, h.lay]
  omega
theorem eqD_enc [DecidableEq α] {e : α → D} {n : Nat} [h : EncF e] [k : DepF e n] (hn : n ≤ 20) (a b : α) : eqD (e a) (e b) = some (decide (a = b)) := by
  unfold eqD
  rw [if_pos ⟨okD_enc hn a, okD_enc hn b⟩, h.eqv]
theorem eqD_tup [DecidableEq α] {e : α → D} {n : Nat} [EncF e] [DepF e n] (hn : n + 1 ≤ 20) (a b : List α) : eqD (eT e a) (eT e b) = some (decide (a = b)) := eqD_enc hn a b
theorem eqD_lst [DecidableEq α] {e : α → D} {n : Nat} [EncF e] [DepF e n] (hn : n + 1 ≤ 20) (a b : List α) : eqD (eL e a) (eL e b) = some (decide (a = b)) := eqD_enc hn a b
theorem eqD_pr [DecidableEq α] [DecidableEq β] {e : α → D} {f : β → D} {n m : Nat} [EncF e] [DepF e n] [EncF f] [DepF f m] (hn : n + m + 1 ≤ 20) (a b : α × β) : eqD (eP e f a) (eP e f b) = some (decide (a = b)) := eqD_enc hn a b
theorem eqD_tup0 [DecidableEq α] {e : α → D} {n : Nat} [EncF e] [DepF e n] (hn : n + 1 ≤ 20) (a : List α) : eqD (eT e a) (.tuple []) = some (decide (a = [])) := eqD_tup hn a []
theorem eqD_lst0 [DecidableEq α] {e : α → D} {n : Nat} [EncF e] [DepF e n] (hn : n + 1 ≤ 20) (a : List α) : eqD (eL e a) (.list []) = some (decide (a = [])) := eqD_lst hn a []
theorem memD_enc [DecidableEq α] {e : α → D} [h : EncF e] (a : α) (l : List α) : memD (l.map e) (e a) = decide (a ∈ l) := by
  unfold memD
  induction l with
  | nil => rfl
  | cons b l ih =>
    simp only [List.map_cons, List.any_cons, ih, h.eqv, List.mem_cons]
    by_cases q : a = b
    · simp [q]
    · have q2 : ¬ b = a := fun z => q z.symm
      simp [q, q2]
theorem inD_lst [DecidableEq α] {e : α → D} {n : Nat} [h : EncF e] [k : DepF e n] (hn : n + 1 ≤ 20) (a : α) (l : List α) : inD (e a) (eL e l) = some (decide (a ∈ l)) := by
  have h1 : okD (e a) = true := okD_enc (by omega) a
  have h2 : okD (eL e l) = true := okD_enc hn l
  rw [← memD_enc (e := e)]
  unfold eL at h2 ⊢
  show (if _ then some (memD (l.map e) (e a)) else none) = _
  rw [if_pos ⟨h1, h2⟩]
theorem inD_tup [DecidableEq α] {e : α → D} {n : Nat} [h : EncF e] [k : DepF e n] (hn : n + 1 ≤ 20) (a : α) (l : List α) : inD (e a) (eT e l) = some (decide (a ∈ l)) := by
  have h1 : okD (e a) = true := okD_enc (by omega) a
  have h2 : okD (eT e l) = true := okD_enc hn l
  rw [← memD_enc (e := e)]
  unfold eT at h2 ⊢
  show (if _ then some (memD (l.map e) (e a)) else none) = _
  rw [if_pos ⟨h1, h2⟩]
/-! ### order -/
def lexB [DecidableEq α] (lt : α → α → Bool) : List α → List α → Bool
  | [], [] => false
  | [], _ :: _ => true
  | _ :: _, [] => false
  | a :: as, b :: bs => if a = b then lexB lt as bs else lt a b
def lexP [DecidableEq α] (lt : α → α → Bool) (lt' : β → β → Bool) (p q : α × β) : Bool := if p.1 = q.1 then lt' p.2 q.2 else lt p.1 q.1
def ltI (a b : Int) : Bool := decide (a < b)
instance : OrdF PyData.int ltI := ⟨fun a b => by simp [PySem.W.alike], fun a b => by simp [dataLt_int, ltI], fun a => rfl⟩
instance : LtOk ltI := ⟨fun a => by simp [ltI], fun a b c h k => by simp [ltI] at *; omega, fun a b h k => by simp [ltI] at *; omega⟩
theorem alikeAll_map [DecidableEq α] {e : α → D} {lt : α → α → Bool} [h : OrdF e lt] : ∀ a b : List α, PySem.W.alikeAll (a.map e) (b.map e) = true
  | [], [] => by simp [PySem.W.alikeAll]
  | [], _ :: _ => by simp [PySem.W.alikeAll]
  | _ :: _, [] => by simp [PySem.W.alikeAll]
  | x :: a, y :: b => by simp [PySem.W.alikeAll, h.alike, alikeAll_map a b]
theorem lexLt_map [DecidableEq α] {e : α → D} {lt : α → α → Bool} [h : OrdF e lt] [k : EncF e] : ∀ a b : List α, PyProof.Rows.lexLt itemOrd (keyToksAll (a.map e)) (keyToksAll (b.map e)) = lexB lt a b
  | [], [] => rfl
  | [], _ :: _ => by
    simp only [List.map_nil, List.map_cons, keyToksAll]
    rfl
  | _ :: _, [] => by
    simp only [List.map_nil, List.map_cons, keyToksAll]
    rfl
  | x :: a, y :: b => by
    rw [List.map_cons, List.map_cons, dataLt_cons (h.alike x y), k.eqv, h.lt, lexLt_map a b, lexB]
    by_cases q : x = y <;> simp [q]
instance [DecidableEq α] {e : α → D} {lt : α → α → Bool} [OrdF e lt] [EncF e] : OrdF (eT e) (lexB lt) := ⟨fun a b => by simp [eT, PySem.W.alike, alikeAll_map], fun a b => by rw [eT, eT, dataLt_tuple, lexLt_map], fun a => rfl⟩
instance [DecidableEq α] [DecidableEq β] {e : α → D} {f : β → D} {lt : α → α → Bool} {lt' : β → β → Bool} [h : OrdF e lt] [k : EncF e] [h' : OrdF f lt'] [k' : EncF f] [LtOk lt'] : OrdF (eP e f) (lexP lt lt') := ⟨fun a b => by simp [eP, PySem.W.alike, PySem.W.alikeAll, h.alike, h'.alike], fun a b => by
  rw [eP, eP, dataLt_pair (h.alike _ _) (h'.alike _ _), k.eqv, k'.eqv, h.lt, h'.lt, lexP]
  by_cases q : a.1 = b.1
  · simp only [q, decide_true, if_true]
    by_cases r : a.2 = b.2
    · simp [r, LtOk.irr]
    · simp [r]
  · simp [q], fun a => rfl⟩
instance [DecidableEq α] {lt : α → α → Bool} [h : LtOk lt] : LtOk (lexB lt) where
  irr := fun a => by
    induction a with
    | nil => rfl
    | cons x a ih => simp [lexB, ih]
  tr := fun a => by
    induction a with
    | nil =>
      intro b c h1 h2
      cases c with
      | nil => cases b <;> simp [lexB] at h2
      | cons z c => rfl
    | cons x a ih =>
      intro b c h1 h2
      cases b with
      | nil => simp [lexB] at h1
      | cons y b =>
        cases c with
        | nil => simp [lexB] at h2
        | cons z c =>
          simp only [lexB] at *
          split at h1
          · rename_i q
            subst q
            split at h2
            · rename_i r
              subst r
              rw [if_pos rfl]
              exact ih b c h1 h2
            · rename_i r
              rw [if_neg r]
              exact h2
          · rename_i q
            split at h2
            · rename_i r
              subst r
              rw [if_neg q]
              exact h1
            · rename_i r
              have t := h.tr x y z h1 h2
              rw [if_neg (fun e => by rw [e, h.irr] at t; cases t)]
              exact t
  tri := fun a => by
    induction a with
    | nil =>
      intro b h1 h2
      cases b with
      | nil => rfl
      | cons y b => simp [lexB] at h1
    | cons x a ih =>
      intro b h1 h2
      cases b with
      | nil => simp [lexB] at h2
      | cons y b =>
        simp only [lexB] at *
        by_cases q : x = y
        · subst q
          rw [if_pos rfl] at h1 h2
          rw [ih b h1 h2]
        · rw [if_neg q] at h1
          rw [if_neg (fun e => q e.symm)] at h2
          exact absurd (h.tri x y h1 h2) q
instance [DecidableEq α] [DecidableEq β] {lt : α → α → Bool} {lt' : β → β → Bool} [h : LtOk lt] [k : LtOk lt'] : LtOk (lexP lt lt') where
  irr := fun a => by simp [lexP, k.irr]
  tr := fun a b c h1 h2 => by
    unfold lexP at *
    split at h1
    · rename_i q
      rw [q]
      split at h2
      · rename_i r
        rw [if_pos r]
        exact k.tr _ _ _ h1 h2
      · rename_i r
        rw [if_neg r]
        exact h2
    · rename_i q
      split at h2
      · rename_i r
        rw [← r, if_neg q]
        exact h1
      · have t := h.tr _ _ _ h1 h2
        rw [if_neg (fun e => by rw [e, h.irr] at t; cases t)]
        exact t
  tri := fun a b h1 h2 => by
    unfold lexP at *
    by_cases q : a.1 = b.1
    · rw [if_pos q] at h1
      rw [if_pos q.symm] at h2
      exact Prod.ext q (k.tri _ _ h1 h2)
    · rw [if_neg q] at h1
      rw [if_neg (fun e => q e.symm)] at h2
      exact absurd (h.tri _ _ h1 h2) q
theorem ltD_enc [DecidableEq α] {e : α → D} {n : Nat} {lt : α → α → Bool} [EncF e] [DepF e n] [h : OrdF e lt] (hn : n ≤ 20) (a b : α) : ltD (e a) (e b) = some (lt a b) := by
  unfold ltD
  rw [if_pos ⟨h.alike a b, okD_enc hn a, okD_enc hn b, h.nn a⟩, h.lt]
theorem gtD_enc [DecidableEq α] {e : α → D} {n : Nat} {lt : α → α → Bool} [EncF e] [DepF e n] [h : OrdF e lt] (hn : n ≤ 20) (a b : α) : gtD (e a) (e b) = some (lt b a) := by
  unfold gtD
  rw [if_pos ⟨h.alike a b, okD_enc hn a, okD_enc hn b, h.nn a⟩, h.lt]
/-! ### sorting -/
def sortT (lt : α → α → Bool) (l : List α) : List α := l.mergeSort fun a b => !lt b a
theorem dataLe_eq (a b : D) : dataLe false id a b = !dataLt b a := rfl
theorem sortD_enc [DecidableEq α] {e : α → D} {lt : α → α → Bool} [h : OrdF e lt] (l : List α) : sortD (l.map e) = (sortT lt l).map e := by
  unfold sortD sortT
  rw [List.map_mergeSort]
  intro a _ b _
  rw [dataLe_eq, h.lt]
theorem mem_sortT {lt : α → α → Bool} {l : List α} {a : α} : a ∈ sortT lt l ↔ a ∈ l := (List.mergeSort_perm l _).mem_iff
theorem sortT_perm {lt : α → α → Bool} {l : List α} : (sortT lt l).Perm l := List.mergeSort_perm l _
theorem length_sortT {lt : α → α → Bool} {l : List α} : (sortT lt l).length = l.length := sortT_perm.length_eq
theorem sortT_pairwise {lt : α → α → Bool} [h : LtOk lt] (l : List α) : (sortT lt l).Pairwise fun a b => lt b a = false := by
  have := List.pairwise_mergeSort (le := fun a b => !lt b a) (fun a b c h1 h2 => by
    simp only [Bool.not_eq_true'] at *
    cases e : lt c a with
    | false => rfl
    | true =>
      cases e2 : lt a b with
      | true =>
        have := h.tr _ _ _ e e2
        rw [h2] at this; cases this
      | false =>
        have := h.tri a b e2 h1
        subst this
        rw [h2] at e; cases e) (fun a b => by
    cases e : lt b a with
    | false => rfl
    | true =>
      cases e2 : lt a b with
      | false => rfl
      | true =>
        have := h.tr _ _ _ e e2
        rw [h.irr] at this; cases this) l
  exact this.imp fun h => by simpa using h
theorem sortOk_enc [DecidableEq α] {e : α → D} {n : Nat} {lt : α → α → Bool} [EncF e] [DepF e n] [h : OrdF e lt] (hn : n + 1 ≤ 20) (l : List α) (ht : (l.map e).all isTup1 = true ∨ (l.map e).all isAtom = true) (hl : l.length ≤ lim) : sortOk (l.map e) = true := by
  have h2 : okD (eL e l) = true := okD_enc hn l
  unfold eL at h2
  unfold sortOk
  rw [h2]
  have h1 : alikeB (l.map e) = true := by
    simp [alikeB, h.alike]
  rw [h1, List.length_map, decide_eq_true hl, Bool.or_eq_true_iff.mpr ht]
  rfl
theorem sorted_ints (l : List Int) (hl : l.length ≤ lim) : sortOk (l.map .int) = true := sortOk_enc (by decide) l (.inr (by simp [isAtom])) hl
theorem sorted_tups [DecidableEq α] {e : α → D} {n : Nat} {lt : α → α → Bool} [EncF e] [DepF e n] [h : OrdF e lt] (hn : n + 2 ≤ 20) (l : List (List α)) (hl : l.length ≤ lim) (h0 : ∀ s ∈ l, s ≠ []) : sortOk (l.map (eT e)) = true := by
  refine sortOk_enc hn l (.inl ?_) hl
  rw [List.all_map]
  refine List.all_eq_true.mpr fun s hs => ?_
  have := h0 s hs
  cases s with
  | nil => exact absurd rfl this
  | cons x s => rfl
theorem sorted_prs [DecidableEq α] [DecidableEq β] {e : α → D} {f : β → D} {n m : Nat} {lt : α → α → Bool} {lt' : β → β → Bool} [EncF e] [DepF e n] [OrdF e lt] [EncF f] [DepF f m] [OrdF f lt'] [LtOk lt'] (hn : n + m + 2 ≤ 20) (l : List (α × β)) (hl : l.length ≤ lim) : sortOk (l.map (eP e f)) = true := by
  refine sortOk_enc (n := n + m + 1) hn l (.inl ?_) hl
  rw [List.all_map]
  exact List.all_eq_true.mpr fun s _ => rfl
/-! ### the least -/
def minT (lt : α → α → Bool) (a : α) (l : List α) : α := l.foldl (fun a y => if lt y a then y else a) a
theorem minD_enc [DecidableEq α] {e : α → D} {lt : α → α → Bool} [h : OrdF e lt] (l : List α) : ∀ a, minD (e a) (l.map e) = e (minT lt a l) := by
  unfold minD minT
  induction l with
  | nil => intro a; rfl
  | cons b l ih =>
    intro a
    rw [List.map_cons, List.foldl_cons, List.foldl_cons, ← ih]
    congr 1
    rw [h.lt]
    split <;> rfl
theorem minT_mem (lt : α → α → Bool) (l : List α) : ∀ a, minT lt a l ∈ a :: l := by
  unfold minT
  induction l with
  | nil => intro a; simp
  | cons b l ih =>
    intro a
    rw [List.foldl_cons]
    have := ih (if lt b a = true then b else a)
    rcases List.mem_cons.mp this with h | h
    · rw [h]
      split
      · simp
      · simp
    · simp [h]
theorem minT_le (lt : α → α → Bool) [h : LtOk lt] (l : List α) : ∀ a, ∀ x ∈ a :: l, lt x (minT lt a l) = false := by
  unfold minT
  induction l with
  | nil =>
    intro a x hx
    simp at hx
    subst hx
    exact h.irr x
  | cons b l ih =>
    intro a x hx
    rw [List.foldl_cons]
    have key : ∀ m, lt (if lt b a = true then b else a) m = false → lt a m = false ∧ lt b m = false := by
      intro m hm
      split at hm
      · rename_i q
        refine ⟨?_, hm⟩
        cases e : lt a m with
        | false => rfl
        | true =>
          have := h.tr _ _ _ q e
          rw [hm] at this; cases this
      · rename_i q
        refine ⟨hm, ?_⟩
        cases e : lt b m with
        | false => rfl
        | true =>
          exfalso
          cases e2 : lt m a with
          | true => exact q (h.tr _ _ _ e e2)
          | false =>
            have := h.tri _ _ e2 hm
            subst this
            exact q e
    have h0 := key _ (ih (if lt b a = true then b else a) _ List.mem_cons_self)
    rcases List.mem_cons.mp hx with rfl | hx
    · exact h0.1
    · rcases List.mem_cons.mp hx with rfl | hx
      · exact h0.2
      · exact ih _ x (List.mem_cons_of_mem _ hx)
theorem cmpOk_enc [DecidableEq α] {e : α → D} {n : Nat} {lt : α → α → Bool} [EncF e] [DepF e n] [h : OrdF e lt] (hn : n + 1 ≤ 20) (l : List α) : cmpOk (l.map e) = true := by
  have h2 : okD (eL e l) = true := okD_enc hn l
  unfold eL at h2
  unfold cmpOk
  rw [h2]
  have h1 : alikeB (l.map e) = true := by simp [alikeB, h.alike]
  rw [h1]
  simp [h.nn]
theorem minB_enc [DecidableEq α] {e : α → D} {n : Nat} {lt : α → α → Bool} [EncF e] [DepF e n] [h : OrdF e lt] (hn : n + 1 ≤ 20) (a : α) (l : List α) : minB [eL e (a :: l)] = some (.sh (e (minT lt a l))) := by
  have := cmpOk_enc (e := e) hn (a :: l)
  unfold eL
  rw [List.map_cons] at this ⊢
  show (if _ then some (Rv.sh (minD (e a) (l.map e))) else none) = _
  rw [if_pos this, minD_enc]
end VL

set_option linter.all false
set_option maxRecDepth 100000
/-! P3: comprehensions, loops, dicts, places, over typed values. -/
namespace VL
open PySem PySem.W PyProof.Rows
variable {α β γ : Type}
theorem lim_eq : lim = 1000000 := rfl
/-! ### comprehensions -/
theorem loopC_pure {γ : Type} {f : D → Ev → List D → Res (Ev × List D)} {ρ : Ev} (e : α → D) (g : α → List D) : ∀ (xs : List α) (acc : List D), (∀ x ∈ xs, (g x).length ≤ 1) → acc.length + xs.length ≤ lim →
    (∀ x ∈ xs, ∀ acc : List D, acc.length < lim → f (e x) ρ acc = .ok (ρ, acc ++ g x)) → loopC f (xs.map e) ρ acc = .ok (ρ, acc ++ xs.flatMap g)
  | [], acc, _, _, _ => by simp [loopC]
  | x :: xs, acc, h1, h2, h3 => by
    rw [List.map_cons, loopC, h3 x (by simp) acc (by simp at h2; omega)]
    have hx := h1 x (by simp)
    rw [ok_bind, loopC_pure (γ := γ) e g xs (acc ++ g x) (fun y hy => h1 y (by simp [hy])) (by simp at h2 ⊢; omega) (fun y hy => h3 y (by simp [hy]))]
    simp
theorem flatMap_opt {p : α → Bool} {g : α → β} : ∀ xs : List α, xs.flatMap (fun x => if p x then [g x] else []) = (xs.filter p).map g
  | [] => rfl
  | x :: xs => by
    rw [List.flatMap_cons, flatMap_opt xs, List.filter_cons]
    cases p x <;> simp
/-- [e for t in it if c] -/
theorem comp_enc {own : List Nat} {t : MT} {fi : FA} {fc : FC} {fe : FE} {ρ ρ0 : Ev} (e : α → D) (f : β → D) (xs : List α) (p : α → Bool) (g : α → β)
    (hi : fi ρ = .ok (xs.map e, ρ)) (hn : noOw ρ own = true) (h0 : wipeE own ρ = ρ0) (hb : backE own ρ ρ0 = ρ) (hl : xs.length ≤ lim)
    (hs : ∀ x ∈ xs, ∃ ρ1, asgT t (e x) ρ0 = some ρ1 ∧ fc ρ1 = .ok (p x, ρ1) ∧ (p x = true → fFz fe ρ1 = .ok (f (g x), ρ1)) ∧ wipeE own ρ1 = ρ0) :
    fComp own t fi fc fe ρ = .ok (.fr (eL f ((xs.filter p).map g)), ρ) := by
  unfold fComp
  rw [hi, ok_bind, if_pos hn, h0]
  have key := loopC_pure (γ := Unit) (f := turnC own t fc fe) (ρ := ρ0) e (fun x => if p x then [f (g x)] else []) xs [] (fun x _ => by split <;> simp) (by simpa using hl) (fun x hx acc ha => by
    obtain ⟨ρ1, h1, h2, h3, h4⟩ := hs x hx
    unfold turnC
    rw [h1, lift_some, ok_bind, h2, ok_bind]
    simp only
    cases q : p x with
    | true =>
      rw [if_pos rfl, h3 q, ok_bind, if_pos ha]
      simp [h4]
    | false =>
      rw [if_neg (by decide)]
      simp [h4])
  rw [key, noEx_ok, ok_bind, List.nil_append, flatMap_opt (p := p) (g := fun x => f (g x)), pure_ok]
  simp only
  rw [hb]
  simp [eL]
/-- [e for t in it] -/
theorem comp_map {own : List Nat} {t : MT} {fi : FA} {fe : FE} {ρ ρ0 : Ev} (e : α → D) (f : β → D) (xs : List α) (g : α → β)
    (hi : fi ρ = .ok (xs.map e, ρ)) (hn : noOw ρ own = true) (h0 : wipeE own ρ = ρ0) (hb : backE own ρ ρ0 = ρ) (hl : xs.length ≤ lim)
    (hs : ∀ x ∈ xs, ∃ ρ1, asgT t (e x) ρ0 = some ρ1 ∧ fFz fe ρ1 = .ok (f (g x), ρ1) ∧ wipeE own ρ1 = ρ0) :
    fComp own t fi cYes fe ρ = .ok (.fr (eL f (xs.map g)), ρ) := by
  have := comp_enc (own := own) (t := t) (fi := fi) (fc := cYes) (fe := fe) e f xs (fun _ => true) g hi hn h0 hb hl (fun x hx => by
    obtain ⟨ρ1, h1, h2, h3⟩ := hs x hx
    exact ⟨ρ1, h1, rfl, fun _ => h2, h3⟩)
  rwa [List.filter_eq_self.mpr (fun _ _ => rfl)] at this
theorem loopC_list {f : D → Ev → List D → Res (Ev × List D)} {ρ : Ev} (e : α → D) (g : α → List D) (L : Nat) : ∀ (xs : List α) (acc : List D), acc.length + (xs.flatMap g).length ≤ L →
    (∀ x ∈ xs, ∀ acc : List D, acc.length + (g x).length ≤ L → f (e x) ρ acc = .ok (ρ, acc ++ g x)) → loopC f (xs.map e) ρ acc = .ok (ρ, acc ++ xs.flatMap g)
  | [], acc, _, _ => by simp [loopC]
  | x :: xs, acc, h2, h3 => by
    rw [List.flatMap_cons, List.length_append] at h2
    rw [List.map_cons, loopC, h3 x (by simp) acc (by omega)]
    rw [ok_bind, loopC_list e g L xs (acc ++ g x) (by rw [List.length_append]; omega) (fun y hy => h3 y (by simp [hy]))]
    simp
/-- [e for t in it if c for t1 in it1 if c1] -/
theorem comp2_enc {own own1 : List Nat} {t t1 : MT} {fi fi1 : FA} {fc fc1 : FC} {fe : FE} {ρ ρ0 : Ev} (e : α → D) (e1 : γ → D) (f : β → D) (xs : List α) (p : α → Bool) (ys : α → List γ) (p1 : α → γ → Bool) (g : α → γ → β)
    (hi : fi ρ = .ok (xs.map e, ρ)) (hn : noOw ρ own = true) (h0 : wipeE own ρ = ρ0) (hb : backE own ρ ρ0 = ρ) (hl : ((xs.filter p).flatMap fun x => ys x).length ≤ lim)
    (hs : ∀ x ∈ xs, ∃ ρ1, asgT t (e x) ρ0 = some ρ1 ∧ fc ρ1 = .ok (p x, ρ1) ∧ wipeE own ρ1 = ρ0 ∧ (p x = true → fi1 ρ1 = .ok ((ys x).map e1, ρ1) ∧ ∃ ρ2, wipeE own1 ρ1 = ρ2 ∧ wipeE own ρ2 = ρ0 ∧ ∀ y ∈ ys x, ∃ ρ3, asgT t1 (e1 y) ρ2 = some ρ3 ∧ fc1 ρ3 = .ok (p1 x y, ρ3) ∧ (p1 x y = true → fFz fe ρ3 = .ok (f (g x y), ρ3)) ∧ wipeE own1 ρ3 = ρ2)) :
    fComp2 own own1 t fi fc t1 fi1 fc1 fe ρ = .ok (.fr (eL f ((xs.filter p).flatMap fun x => ((ys x).filter (p1 x)).map (g x))), ρ) := by
  unfold fComp2
  rw [hi, ok_bind, if_pos hn, h0]
  have key := loopC_list (f := turnC2 own own1 t fc fi1 t1 fc1 fe) (ρ := ρ0) (α := α × Nat) (fun q => e q.1) (fun q => if p q.1 then (((ys q.1).filter (p1 q.1)).map (g q.1)).map f else [])
  have fit : ∀ (xs : List α) (acc : List D), acc.length + ((xs.filter p).flatMap fun x => ys x).length ≤ lim → (∀ x ∈ xs, ∃ ρ1, asgT t (e x) ρ0 = some ρ1 ∧ fc ρ1 = .ok (p x, ρ1) ∧ wipeE own ρ1 = ρ0 ∧ (p x = true → fi1 ρ1 = .ok ((ys x).map e1, ρ1) ∧ ∃ ρ2, wipeE own1 ρ1 = ρ2 ∧ wipeE own ρ2 = ρ0 ∧ ∀ y ∈ ys x, ∃ ρ3, asgT t1 (e1 y) ρ2 = some ρ3 ∧ fc1 ρ3 = .ok (p1 x y, ρ3) ∧ (p1 x y = true → fFz fe ρ3 = .ok (f (g x y), ρ3)) ∧ wipeE own1 ρ3 = ρ2)) →
      loopC (turnC2 own own1 t fc fi1 t1 fc1 fe) (xs.map e) ρ0 acc = .ok (ρ0, acc ++ ((xs.filter p).flatMap fun x => ((ys x).filter (p1 x)).map (g x)).map f) := by
    intro xs
    induction xs with
    | nil => intro acc _ _; simp [loopC]
    | cons x xs ih =>
      intro acc hl hs
      obtain ⟨ρ1, h1, h2, hw, h3⟩ := hs x (by simp)
      have hs' := fun y hy => hs y (List.mem_cons_of_mem _ hy)
      rw [List.map_cons, loopC]
      unfold turnC2
      rw [h1, lift_some, ok_bind, h2, ok_bind]
      simp only
      rw [List.filter_cons] at hl ⊢
      cases q : p x with
      | false =>
        rw [q] at hl
        rw [if_neg (by decide)] at hl ⊢
        rw [pure_ok, ok_bind, hw, if_neg (by decide)]
        exact ih acc hl hs'
      | true =>
        rw [q] at hl
        rw [if_pos rfl] at hl ⊢
        rw [List.flatMap_cons, List.length_append] at hl
        obtain ⟨h4, ρ2, h5, h6, h7⟩ := h3 q
        rw [h4, ok_bind]
        simp only
        rw [h5]
        have k := loopC_pure (γ := Unit) (f := turnC own1 t1 fc1 fe) (ρ := ρ2) e1 (fun y => if p1 x y then [f (g x y)] else []) (ys x) acc (fun y _ => by split <;> simp) (by omega) (fun y hy acc ha => by
          obtain ⟨ρ3, g1, g2, g3, g4⟩ := h7 y hy
          unfold turnC
          rw [g1, lift_some, ok_bind, g2, ok_bind]
          simp only
          cases q : p1 x y with
          | true =>
            rw [if_pos rfl, g3 q, ok_bind, if_pos ha]
            simp [g4]
          | false =>
            rw [if_neg (by decide)]
            simp [g4])
        rw [k, ok_bind, pure_ok, ok_bind, flatMap_opt (p := p1 x) (g := fun y => f (g x y))]
        simp only
        rw [h6, if_pos trivial, List.flatMap_cons, List.map_append]
        have hfl : (((ys x).filter (p1 x)).map fun y => f (g x y)).length ≤ (ys x).length := by
          rw [List.length_map]
          exact List.length_filter_le _ _
        refine (ih _ (by rw [List.length_append, List.length_map]; rw [List.length_map] at hfl; omega) hs').trans ?_
        simp
  rw [fit xs [] (by simpa using hl) hs, noEx_ok, ok_bind, pure_ok, List.nil_append]
  simp only
  rw [hb]
  rfl
/-! ### loops -/
/-- a for-loop that always goes on, by an invariant over typed states -/
theorem for_inv {S : Type} {t : MT} {fb : FS} (e : α → D) (st : S → Ev) : ∀ (xs : List α) (P : List α → S → Prop) (s : S), P xs s →
    (∀ x xs' s, P (x :: xs') s → ∃ ρ1 s', asgT t (e x) (st s) = some ρ1 ∧ (fb ρ1 = .ok (.nx (st s')) ∨ fb ρ1 = .ok (.ct (st s'))) ∧ P xs' s') → ∃ s', P [] s' ∧ loopF (turnF t fb) (xs.map e) (st s) = .ok (.nx (st s'))
  | [], P, s, hp, _ => ⟨s, hp, rfl⟩
  | x :: xs, P, s, hp, h => by
    obtain ⟨ρ1, s', h1, h2, h3⟩ := h x xs s hp
    obtain ⟨s2, h4, h5⟩ := for_inv e st xs P s' h3 h
    refine ⟨s2, h4, ?_⟩
    rw [List.map_cons, loopF]
    unfold turnF
    rw [h1, lift_some, ok_bind]
    rcases h2 with h2 | h2
    · rw [h2, ok_bind]
      exact h5
    · rw [h2, ok_bind]
      exact h5
/-- .. as a fold -/
theorem for_fold {S : Type} {t : MT} {fb : FS} (e : α → D) (st : S → Ev) (step : S → α → S) (xs : List α) (P : S → Prop) (s : S) (hp : P s)
    (h : ∀ s x, x ∈ xs → P s → ∃ ρ1, asgT t (e x) (st s) = some ρ1 ∧ fb ρ1 = .ok (.nx (st (step s x))) ∧ P (step s x)) : P (xs.foldl step s) ∧ loopF (turnF t fb) (xs.map e) (st s) = .ok (.nx (st (xs.foldl step s))) := by
  induction xs generalizing s with
  | nil => exact ⟨hp, rfl⟩
  | cons x xs ih =>
    obtain ⟨ρ1, h1, h2, h3⟩ := h s x (by simp) hp
    have := ih (step s x) h3 (fun s y hy => h s y (List.mem_cons_of_mem _ hy))
    refine ⟨this.1, ?_⟩
    rw [List.map_cons, loopF]
    unfold turnF
    rw [h1, lift_some, ok_bind, h2, ok_bind]
    exact this.2
/-- a for-loop that hands back at the first x with p x -/
theorem for_find {t : MT} {fb : FS} (e : α → D) (p : α → Bool) (r : α → Rv) (fin : α → Ev) (st : Option α → Ev) : ∀ (xs : List α) (o : Option α),
    (∀ x ∈ xs, ∀ o, ∃ ρ1, asgT t (e x) (st o) = some ρ1 ∧ fb ρ1 = .ok (if p x then .rt (r x) (fin x) else .nx (st (some x)))) → (∃ x ∈ xs, p x = true) → ∃ x, xs.find? p = some x ∧ loopF (turnF t fb) (xs.map e) (st o) = .ok (.rt (r x) (fin x))
  | [], o, _, ⟨x, hx, _⟩ => by cases hx
  | x :: xs, o, h, he => by
    obtain ⟨ρ1, h1, h2⟩ := h x (by simp) o
    rw [List.map_cons, loopF, List.find?_cons]
    unfold turnF
    rw [h1, lift_some, ok_bind, h2]
    cases q : p x with
    | true => exact ⟨x, rfl, by simp⟩
    | false =>
      obtain ⟨y, hy, hq⟩ := he
      obtain ⟨z, h3, h4⟩ := for_find e p r fin st xs (some x) (fun y hy => h y (List.mem_cons_of_mem _ hy)) (by
        rcases List.mem_cons.mp hy with rfl | hy
        · rw [q] at hq; cases hq
        · exact ⟨y, hy, hq⟩)
      refine ⟨z, h3, ?_⟩
      simp only [Bool.false_eq_true, if_false, ok_bind]
      exact h4
/-- a while-loop by an invariant and a measure -/
theorem whl_inv {S : Type} {c : FC} {fb : FS} (st : S → Ev) (P : S → Prop) (m : S → Nat) (cond : S → Bool)
    (hc : ∀ s, P s → c (st s) = .ok (cond s, st s)) (h : ∀ s, P s → cond s = true → ∃ s', fb (st s) = .ok (.nx (st s')) ∧ P s' ∧ m s' < m s) : ∀ (n : Nat) (s : S), P s → m s < n → ∃ s', P s' ∧ cond s' = false ∧ loopW c fb n (st s) = .ok (.nx (st s'))
  | 0, s, _, hm => by omega
  | n + 1, s, hp, hm => by
    rw [loopW, hc s hp, ok_bind]
    cases q : cond s with
    | false => exact ⟨s, hp, q, by simp⟩
    | true =>
      obtain ⟨s1, h1, h2, h3⟩ := h s hp q
      obtain ⟨s2, h4, h5, h6⟩ := whl_inv st P m cond hc h n s1 h2 (by omega)
      refine ⟨s2, h4, h5, ?_⟩
      simp only [if_true]
      rw [h1, ok_bind]
      exact h6
/-! ### dicts -/
def alook [DecidableEq α] : List (α × β) → α → Option β
  | [], _ => none
  | (a, b) :: l, k => if a = k then some b else alook l k
def aput [DecidableEq α] (l : List (α × β)) (k : α) (v : β) : List (α × β) := if k ∈ l.map (·.1) then l.map fun p => if p.1 = k then (p.1, v) else p else l ++ [(k, v)]
def eD (ek : α → D) (ev : β → D) (l : List (α × β)) : D := .dict (l.map fun p => (ek p.1, ev p.2))
class KeyF (e : α → D) (kf : outParam (α → NestedKey)) (n : outParam Nat) : Prop where
  key : ∀ a, keyOf (e a) = some (kf a)
  inj : ∀ a b, kf a = kf b → a = b
  dep : ∀ a, (kf a).depth ≤ n
class TupF (e : α → D) : Prop where
  tup : ∀ a, ∃ ds, e a = .tuple ds
instance : KeyF PyData.int .num 0 := ⟨fun a => by simp [keyOf], fun a b h => by cases h; rfl, fun a => by simp [NestedKey.depth]⟩
theorem keysOf_map {e : α → D} {kf : α → NestedKey} {n : Nat} [h : KeyF e kf n] : ∀ l : List α, keysOf (l.map e) = some (l.map kf)
  | [] => rfl
  | a :: l => by simp [keysOf, h.key, keysOf_map l]
theorem kdepAll_map {e : α → D} {kf : α → NestedKey} {n : Nat} [h : KeyF e kf n] : ∀ l : List α, NestedKey.depthAll (l.map kf) ≤ n
  | [] => by simp [NestedKey.depthAll]
  | a :: l => by
    have := h.dep a
    have := kdepAll_map (e := e) l
    simp [NestedKey.depthAll]
    omega
instance {e : α → D} {kf : α → NestedKey} {n : Nat} [h : KeyF e kf n] : KeyF (eT e) (fun l => .tup (l.map kf)) (n + 1) := ⟨fun a => by simp [eT, keyOf, keysOf_map], fun a b h0 => by
  injection h0 with h0
  exact (List.map_inj_right (fun a b => h.inj a b)).mp h0, fun a => by
  have := kdepAll_map (e := e) a
  simp [NestedKey.depth]
  omega⟩
instance {e : α → D} {f : β → D} {kf : α → NestedKey} {kg : β → NestedKey} {n m : Nat} [h : KeyF e kf n] [k : KeyF f kg m] : KeyF (eP e f) (fun p => .tup [kf p.1, kg p.2]) (n + m + 1) := ⟨fun a => by simp [eP, keyOf, keysOf, h.key, k.key], fun a b h0 => by
  injection h0 with h0
  injection h0 with h1 h0
  injection h0 with h2 h0
  exact Prod.ext (h.inj _ _ h1) (k.inj _ _ h2), fun a => by
  have := h.dep a.1
  have := k.dep a.2
  simp [NestedKey.depth, NestedKey.depthAll]
  omega⟩
instance {e : α → D} : TupF (eT e) := ⟨fun a => ⟨_, rfl⟩⟩
instance {e : α → D} {f : β → D} : TupF (eP e f) := ⟨fun a => ⟨_, rfl⟩⟩
section
variable {ek : α → D} {ev : β → D} {kf : α → NestedKey} {n : Nat}
theorem keyT_enc [h : KeyF ek kf n] [t : TupF ek] (hn : n ≤ 8) (a : α) : keyT (ek a) = some (kf a) := by
  obtain ⟨ds, e⟩ := t.tup a
  have h1 := h.key a
  have h2 := h.dep a
  rw [e] at h1 ⊢
  unfold keyT
  rw [keyOf] at h1
  cases q : keysOf ds with
  | none => rw [q] at h1; cases h1
  | some ks =>
    rw [q] at h1
    have h3 : NestedKey.tup ks = kf a := by simpa using h1
    simp only
    rw [q]
    simp only
    rw [h3, if_pos (by omega)]
theorem keyIs_enc [DecidableEq α] [h : KeyF ek kf n] (a b : α) (v : D) : keyIs (kf a) (ek b, v) = decide (b = a) := by
  unfold keyIs
  simp only
  rw [h.key]
  simp only
  by_cases q : b = a
  · simp [q]
  · have : ¬ kf b = kf a := fun z => q (h.inj _ _ z)
    simp [q, this]
theorem dfind_enc [DecidableEq α] [h : KeyF ek kf n] (l : List (α × β)) (a : α) : dfind (l.map fun p => (ek p.1, ev p.2)) (kf a) = (alook l a).map ev := by
  unfold dfind
  induction l with
  | nil => rfl
  | cons p l ih =>
    obtain ⟨b, v⟩ := p
    rw [List.map_cons, List.find?_cons, keyIs_enc, alook]
    by_cases q : b = a
    · simp [q]
    · simp only [q, decide_false, if_false]
      exact ih
theorem any_enc [DecidableEq α] [h : KeyF ek kf n] (l : List (α × β)) (a : α) : (l.map fun p => (ek p.1, ev p.2)).any (keyIs (kf a)) = decide (a ∈ l.map (·.1)) := by
  induction l with
  | nil => rfl
  | cons p l ih =>
    obtain ⟨b, v⟩ := p
    rw [List.map_cons, List.any_cons, keyIs_enc, ih, List.map_cons]
    by_cases q : b = a
    · simp [q]
    · have q2 : ¬ a = b := fun z => q z.symm
      simp [q, q2]
theorem dput_enc [DecidableEq α] [h : KeyF ek kf n] (l : List (α × β)) (a : α) (v : β) : dput (l.map fun p => (ek p.1, ev p.2)) (ek a) (kf a) (ev v) = (aput l a v).map fun p => (ek p.1, ev p.2) := by
  unfold dput aput
  rw [any_enc]
  by_cases q : a ∈ l.map (·.1)
  · rw [if_pos (decide_eq_true q), if_pos q, List.map_map, List.map_map]
    congr 1
    funext p
    obtain ⟨b, w⟩ := p
    simp only [Function.comp]
    rw [keyIs_enc]
    by_cases z : b = a <;> simp [z]
  · rw [if_neg (by simpa using q), if_neg q]
    simp
theorem plainD_enc [t : TupF ek] (l : List (α × β)) : plainD (l.map fun p => (ek p.1, ev p.2)) = true := by
  cases l with
  | nil => rfl
  | cons p l =>
    obtain ⟨ds, e⟩ := t.tup p.1
    rw [List.map_cons, e]
    unfold plainD
    split
    · rename_i h; cases h
    · rfl
theorem ixD_dict [DecidableEq α] [h : KeyF ek kf n] [t : TupF ek] (hn : n ≤ 8) (l : List (α × β)) (a : α) : ixD (eD ek ev l) (ek a) = (alook l a).map ev := by
  show (match keyT (ek a) with
    | some k => if plainD (l.map fun p : α × β => (ek p.1, ev p.2)) then dfind (l.map fun p : α × β => (ek p.1, ev p.2)) k else none
    | none => none) = _
  rw [keyT_enc hn]
  simp only
  rw [plainD_enc, if_pos rfl, dfind_enc]
theorem inD_dict [DecidableEq α] [h : KeyF ek kf n] [t : TupF ek] (hn : n ≤ 8) (l : List (α × β)) (a : α) : inD (ek a) (eD ek ev l) = some (decide (a ∈ l.map (·.1))) := by
  show (match keyT (ek a) with
    | some k => if plainD (l.map fun p : α × β => (ek p.1, ev p.2)) then some (dfind (l.map fun p : α × β => (ek p.1, ev p.2)) k).isSome else none
    | none => none) = _
  rw [keyT_enc hn]
  simp only
  rw [plainD_enc, if_pos rfl, dfind_enc]
  congr 1
  rw [Option.isSome_map]
  induction l with
  | nil => rfl
  | cons p l ih =>
    obtain ⟨b, v⟩ := p
    rw [alook, List.map_cons]
    by_cases q : b = a
    · simp [q]
    · have q2 : ¬ a = b := fun z => q z.symm
      simp [q, q2, ih]
theorem putD_dict [DecidableEq α] [h : KeyF ek kf n] [t : TupF ek] (hn : n ≤ 8) (l : List (α × β)) (a : α) (v : β) (hl : l.length < lim) : putD (eD ek ev l) (ek a) (ev v) = some (eD ek ev (aput l a v)) := by
  show (match keyT (ek a) with
    | some key => if (l.map fun p : α × β => (ek p.1, ev p.2)).length < lim ∧ plainD (l.map fun p : α × β => (ek p.1, ev p.2)) ∧ plainD (dput (l.map fun p : α × β => (ek p.1, ev p.2)) (ek a) key (ev v)) then some (PyData.dict (dput (l.map fun p : α × β => (ek p.1, ev p.2)) (ek a) key (ev v))) else none
    | none => none) = _
  rw [keyT_enc hn]
  simp only
  rw [dput_enc, plainD_enc, plainD_enc, List.length_map, if_pos ⟨hl, rfl, rfl⟩]
  rfl
theorem itemsOf_dict [t : TupF ek] (l : List (α × β)) : itemsOf (eD ek ev l) = some ((l.map (·.1)).map ek) := by
  have hp := plainD_enc (ek := ek) (ev := ev) l
  unfold eD itemsOf
  split
  · rename_i h; cases h
  · rename_i h; cases h
  · rename_i h
    cases l with
    | nil => cases h
    | cons p l =>
      obtain ⟨ds, e⟩ := t.tup p.1
      rw [List.map_cons, e] at h
      cases h
  · rename_i kvs _ h
    cases h
    rw [hp]
    simp
  · rename_i h
    exact absurd rfl (h _)
end
end VL

set_option linter.all false
set_option maxRecDepth 100000
/-! P4: places, slices, ranges, sums over typed values. -/
namespace VL
open PySem PySem.W PyProof.Rows
variable {α β γ : Type}
theorem ixN_nn {n : Nat} {i : Int} (h0 : 0 ≤ i) (h : i < n) : ixN n i = some i.toNat := by
  unfold ixN
  rw [if_pos h0, if_pos h]
theorem ixAt_nn {xs : List α} {i : Int} {a : α} (h0 : 0 ≤ i) (h : xs[i.toNat]? = some a) : ixAt xs i = some a := by
  have hl := (List.getElem?_eq_some_iff.mp h).1
  unfold ixAt
  rw [ixN_nn h0 (by omega)]
  exact h
theorem ixD_tup {e : α → D} {l : List α} {i : Int} {a : α} (h0 : 0 ≤ i) (h : l[i.toNat]? = some a) : ixD (eT e l) (.int i) = some (e a) := by
  show ixAt (l.map e) i = _
  exact ixAt_nn h0 (by rw [List.getElem?_map, h]; rfl)
theorem ixD_lst {e : α → D} {l : List α} {i : Int} {a : α} (h0 : 0 ≤ i) (h : l[i.toNat]? = some a) : ixD (eL e l) (.int i) = some (e a) := by
  show ixAt (l.map e) i = _
  exact ixAt_nn h0 (by rw [List.getElem?_map, h]; rfl)
@[simp] theorem ixD_pr0 {e : α → D} {f : β → D} {p : α × β} : ixD (eP e f p) (.int 0) = some (e p.1) := rfl
@[simp] theorem ixD_pr1 {e : α → D} {f : β → D} {p : α × β} : ixD (eP e f p) (.int 1) = some (f p.2) := rfl
theorem cut_map {f : α → β} {l : List α} {lo hi : Option Int} : cut (l.map f) lo hi = (cut l lo hi).map f := by
  unfold cut
  simp [List.map_take, List.map_drop]
@[simp] theorem cutR_tup {e : α → D} {l : List α} {lo hi : Option Int} : cutR (eT e l) lo hi = some (.sh (eT e (cut l lo hi))) := by
  show some (Rv.sh (.tuple (cut (l.map e) lo hi))) = _
  rw [cut_map]; rfl
@[simp] theorem cutR_lst {e : α → D} {l : List α} {lo hi : Option Int} : cutR (eL e l) lo hi = some (.fr (eL e (cut l lo hi))) := by
  show some (Rv.fr (.list (cut (l.map e) lo hi))) = _
  rw [cut_map]; rfl
theorem cut_to {l : List α} {i : Int} (h0 : 0 ≤ i) : cut l none (some i) = l.take i.toNat := by
  unfold cut
  simp only [sIx]
  rw [if_neg (by omega)]
  simp only [List.drop_zero, Nat.sub_zero]
  by_cases h : i.toNat ≤ l.length
  · rw [Nat.min_eq_left h]
  · rw [Nat.min_eq_right (by omega), List.take_of_length_le (Nat.le_refl _), List.take_of_length_le (by omega)]
theorem cut_from {l : List α} {i : Int} (h0 : 0 ≤ i) : cut l (some i) none = l.drop i.toNat := by
  unfold cut
  simp only [sIx]
  rw [if_neg (by omega)]
  by_cases h : i.toNat ≤ l.length
  · rw [Nat.min_eq_left h, List.take_of_length_le (by rw [List.length_drop]; omega)]
  · rw [Nat.min_eq_right (by omega), List.drop_of_length_le (Nat.le_refl _), List.drop_of_length_le (by omega), List.take_nil]
/-- the whole numbers below n -/
def rngI (n : Nat) : List Int := (List.range n).map fun i : Nat => (i : Int)
@[simp] theorem rngD_eq {n : Nat} : rngD 0 n = (rngI n).map .int := by
  unfold rngD rngI
  rw [List.map_map]
  congr 1
  funext i
  simp
theorem mem_rngI {n : Nat} {i : Int} : i ∈ rngI n ↔ 0 ≤ i ∧ i < n := by
  unfold rngI
  rw [List.mem_map]
  constructor
  · rintro ⟨k, h, rfl⟩
    rw [List.mem_range] at h
    omega
  · rintro ⟨h1, h2⟩
    exact ⟨i.toNat, by rw [List.mem_range]; omega, by omega⟩
@[simp] theorem length_rngI {n : Nat} : (rngI n).length = n := by simp [rngI]
/-- the numbered items -/
def enumT (l : List α) : List (Int × α) := (rngI l.length).zip l
theorem zip_cons_rng (a : α) (l : List α) (k : Nat) : ((List.range' k (l.length + 1)).map fun i : Nat => (i : Int)).zip (a :: l) = ((k : Int), a) :: ((List.range' (k + 1) l.length).map fun i : Nat => (i : Int)).zip l := by
  rw [List.range'_succ, List.map_cons, List.zip_cons_cons]
theorem enumD_at {e : α → D} : ∀ (l : List α) (k : Nat), enumD k (l.map e) = (((List.range' k l.length).map fun i : Nat => (i : Int)).zip l).map (eP .int e)
  | [], k => by simp [enumD]
  | a :: l, k => by
    rw [List.map_cons, enumD, enumD_at l (k + 1), List.length_cons, zip_cons_rng]
    rfl
@[simp] theorem enumD_eq {e : α → D} {l : List α} : enumD 0 (l.map e) = (enumT l).map (eP .int e) := by
  rw [enumD_at, enumT, rngI, List.range_eq_range']
theorem mem_enumT {l : List α} {q : Int × α} : q ∈ enumT l ↔ 0 ≤ q.1 ∧ l[q.1.toNat]? = some q.2 := by
  unfold enumT rngI
  rw [List.mem_iff_getElem?]
  constructor
  · rintro ⟨i, h⟩
    rw [List.getElem?_zip_eq_some, List.getElem?_map] at h
    obtain ⟨h1, h2⟩ := h
    rw [Option.map_eq_some_iff] at h1
    obtain ⟨k, h3, h4⟩ := h1
    have h5 := List.getElem?_range (n := l.length) (i := i)
    have hl := (List.getElem?_eq_some_iff.mp h3).1
    rw [List.length_range] at hl
    rw [List.getElem?_range hl] at h3
    cases h3
    rw [← h4]
    exact ⟨by omega, by simpa using h2⟩
  · rintro ⟨h1, h2⟩
    have hl := (List.getElem?_eq_some_iff.mp h2).1
    refine ⟨q.1.toNat, ?_⟩
    rw [List.getElem?_zip_eq_some, List.getElem?_map, List.getElem?_range hl]
    exact ⟨by simp; omega, h2⟩
@[simp] theorem zipD_eq {e : α → D} {f : β → D} : ∀ {l : List α} {m : List β}, zipD (l.map e) (m.map f) = (l.zip m).map (eP e f)
  | [], m => by simp [zipD]
  | a :: l, [] => by simp [zipD]
  | a :: l, b :: m => by
    simp only [List.map_cons, zipD, List.zip_cons_cons]
    rw [zipD_eq]
    rfl
@[simp] theorem zipR_lst {e : α → D} {f : β → D} {l : List α} {m : List β} : zipR (eL e l) (eL f m) = some ((l.zip m).map (eP e f)) := by
  show some (zipD (l.map e) (m.map f)) = _
  rw [zipD_eq]
@[simp] theorem zipR_tup {e : α → D} {f : β → D} {l : List α} {m : List β} : zipR (eT e l) (eT f m) = some ((l.zip m).map (eP e f)) := by
  show some (zipD (l.map e) (m.map f)) = _
  rw [zipD_eq]
@[simp] theorem seqOf_eT {e : α → D} {l : List α} : seqOf (eT e l) = some (l.map e) := rfl
@[simp] theorem seqOf_eL {e : α → D} {l : List α} : seqOf (eL e l) = some (l.map e) := rfl
@[simp] theorem itemsOf_eT {e : α → D} {l : List α} : itemsOf (eT e l) = some (l.map e) := rfl
@[simp] theorem itemsOf_eL {e : α → D} {l : List α} : itemsOf (eL e l) = some (l.map e) := rfl
@[simp] theorem itemsOf_t {l : List D} : itemsOf (.tuple l) = some l := rfl
@[simp] theorem itemsOf_l {l : List D} : itemsOf (.list l) = some l := rfl
@[simp] theorem fzOk_eT {e : α → D} {l : List α} : fzOk (eT e l) = true := rfl
@[simp] theorem fzOk_eL {e : α → D} {l : List α} : fzOk (eL e l) = true := rfl
@[simp] theorem fzOk_eP {e : α → D} {f : β → D} {p} : fzOk (eP e f p) = true := rfl
theorem insOf_plain {kvs : List (D × D)} (h : plainD kvs = true) : insOf (.dict kvs) = none := by
  unfold insOf
  split
  · rename_i e
    cases e
    cases h
  · rfl
theorem fzOk_eD {ek : α → D} {ev : β → D} [TupF ek] {l : List (α × β)} : fzOk (eD ek ev l) = true := by
  unfold fzOk eD
  rw [insOf_plain (plainD_enc l)]
@[simp] theorem isLst_eL {e : α → D} {l : List α} : isLst (eL e l) = true := rfl
@[simp] theorem istOk_eT {e : α → D} {l : List α} : istOk (eT e l) = true := rfl
@[simp] theorem istOk_eL {e : α → D} {l : List α} : istOk (eL e l) = true := rfl
@[simp] theorem istOk_eP {e : α → D} {f : β → D} {p} : istOk (eP e f p) = true := rfl
@[simp] theorem istOk_int {i} : istOk (.int i) = true := rfl
@[simp] theorem isTy_eT {e : α → D} {l : List α} : isTy (eT e l) .tuple = true := rfl
@[simp] theorem isTy_eP {e : α → D} {f : β → D} {p} : isTy (eP e f p) .tuple = true := rfl
@[simp] theorem isTy_eL {e : α → D} {l : List α} : isTy (eL e l) .list = true := rfl
@[simp] theorem isTy_ii {i} : isTy (.int i) .int = true := rfl
@[simp] theorem isTy_ib {i} : isTy (.int i) .bool = false := rfl
@[simp] theorem biD_len {ds} : biD .len ds = lenB ds := rfl
@[simp] theorem biD_abs {ds} : biD .abs ds = absB ds := rfl
@[simp] theorem biD_int {ds} : biD .int ds = intB ds := rfl
@[simp] theorem biD_tuple {ds} : biD .tuple ds = tupleB ds := rfl
@[simp] theorem biD_list {ds} : biD .list ds = listB ds := rfl
@[simp] theorem biD_sorted {ds} : biD .sorted ds = sortedB ds := rfl
@[simp] theorem biD_sum {ds} : biD .sum ds = sumB ds := rfl
@[simp] theorem biD_all {ds} : biD .all ds = allB ds := rfl
@[simp] theorem biD_any {ds} : biD .any ds = anyB ds := rfl
@[simp] theorem biD_min {ds} : biD .min ds = minB ds := rfl
@[simp] theorem biD_max {ds} : biD .max ds = maxB ds := rfl
@[simp] theorem lenB_eT {e : α → D} {l : List α} : lenB [eT e l] = some (.sh (.int l.length)) := by
  show some (Rv.sh (.int (l.map e).length)) = _
  rw [List.length_map]
@[simp] theorem lenB_eL {e : α → D} {l : List α} : lenB [eL e l] = some (.sh (.int l.length)) := by
  show some (Rv.sh (.int (l.map e).length)) = _
  rw [List.length_map]
@[simp] theorem lenB_eP {e : α → D} {f : β → D} {p} : lenB [eP e f p] = some (.sh (.int 2)) := rfl
@[simp] theorem absB_i {i} : absB [.int i] = some (.sh (.int (if i < 0 then -i else i))) := rfl
@[simp] theorem intB_i {i} : intB [.int i] = some (.sh (.int i)) := rfl
@[simp] theorem tupleB_eL {e : α → D} {l : List α} : tupleB [eL e l] = some (.sh (eT e l)) := rfl
@[simp] theorem tupleB_eT {e : α → D} {l : List α} : tupleB [eT e l] = some (.sh (eT e l)) := rfl
@[simp] theorem listB_eL {e : α → D} {l : List α} : listB [eL e l] = some (.fr (eL e l)) := rfl
@[simp] theorem listB_eT {e : α → D} {l : List α} : listB [eT e l] = some (.fr (eL e l)) := rfl
theorem intsOf_map (l : List Int) : intsOf (l.map .int) = some l := by
  induction l with
  | nil => rfl
  | cons a l ih => simp [intsOf, ih]
theorem boolsOf_map (l : List Bool) : boolsOf (l.map .bool) = some l := by
  induction l with
  | nil => rfl
  | cons a l ih => simp [boolsOf, ih]
@[simp] theorem sumB_eL {l : List Int} : sumB [eL .int l] = some (.sh (.int l.sum)) := by
  show (match intsOf (l.map .int) with | some ns => some (Rv.sh (.int ns.sum)) | none => none) = _
  rw [intsOf_map]
@[simp] theorem allB_eL {l : List Bool} : allB [eL .bool l] = some (.sh (.bool (l.all id))) := by
  show (match boolsOf (l.map .bool) with | some bs => some (Rv.sh (.bool (bs.all id))) | none => none) = _
  rw [boolsOf_map]
@[simp] theorem anyB_eL {l : List Bool} : anyB [eL .bool l] = some (.sh (.bool (l.any id))) := by
  show (match boolsOf (l.map .bool) with | some bs => some (Rv.sh (.bool (bs.any id))) | none => none) = _
  rw [boolsOf_map]
theorem sortedB_eL [DecidableEq α] {e : α → D} {lt : α → α → Bool} [OrdF e lt] {l : List α} (h : sortOk (l.map e) = true) : sortedB [eL e l] = some (.fr (eL e (sortT lt l))) := by
  show (if sortOk (l.map e) = true then some (Rv.fr (.list (sortD (l.map e)))) else none) = _
  rw [if_pos h, sortD_enc]
  rfl
theorem sortedB_eD [DecidableEq α] {ek : α → D} {ev : β → D} {lt : α → α → Bool} [OrdF ek lt] [TupF ek] {l : List (α × β)} (h : sortOk ((l.map (·.1)).map ek) = true) : sortedB [eD ek ev l] = some (.fr (eL ek (sortT lt (l.map (·.1))))) := by
  show (if plainD (l.map fun p : α × β => (ek p.1, ev p.2)) = true ∧ sortOk ((l.map fun p : α × β => (ek p.1, ev p.2)).map (·.1)) = true then some (Rv.fr (.list (sortD ((l.map fun p : α × β => (ek p.1, ev p.2)).map (·.1))))) else none) = _
  have e : ((l.map fun p : α × β => (ek p.1, ev p.2)).map (·.1)) = (l.map (·.1)).map ek := by simp
  rw [e, if_pos ⟨plainD_enc l, h⟩, sortD_enc]
  rfl
theorem sortedV_eD [DecidableEq β] {ek : α → D} {ev : β → D} {lt : β → β → Bool} [OrdF ev lt] [TupF ek] {l : List (α × β)} (h : sortOk ((l.map (·.2)).map ev) = true) : bivR .sorted (eD ek ev l) = some (.fr (eL ev (sortT lt (l.map (·.2))))) := by
  show (if plainD (l.map fun p : α × β => (ek p.1, ev p.2)) = true then biV .sorted ((l.map fun p : α × β => (ek p.1, ev p.2)).map (·.2)) else none) = _
  have e : ((l.map fun p : α × β => (ek p.1, ev p.2)).map (·.2)) = (l.map (·.2)).map ev := by simp
  rw [e, if_pos (plainD_enc l)]
  show (if sortOk ((l.map (·.2)).map ev) = true then some (Rv.fr (.list (sortD ((l.map (·.2)).map ev)))) else none) = _
  rw [if_pos h, sortD_enc]
  rfl
@[simp] theorem maxB_ii {i j} : maxB [.int i, .int j] = some (.sh (.int (if j > i then j else i))) := rfl
@[simp] theorem minB_ii {i j} : minB [.int i, .int j] = some (.sh (.int (if j < i then j else i))) := rfl
theorem tup_eT {e : α → D} {l : List α} : PyData.tuple (l.map e) = eT e l := rfl
theorem lst_eL {e : α → D} {l : List α} : PyData.list (l.map e) = eL e l := rfl
theorem addD_eL {e : α → D} {l m : List α} (h : l.length + m.length ≤ lim) : addD (eL e l) (eL e m) = some (.fr (eL e (l ++ m))) := by
  show (if (l.map e).length + (m.map e).length ≤ lim then some (Rv.fr (.list (l.map e ++ m.map e))) else none) = _
  rw [List.length_map, List.length_map, if_pos h, ← List.map_append]
  rfl
theorem addD_eT {e : α → D} {l m : List α} (h : l.length + m.length ≤ lim) : addD (eT e l) (eT e m) = some (.sh (eT e (l ++ m))) := by
  show (if (l.map e).length + (m.map e).length ≤ lim then some (Rv.sh (.tuple (l.map e ++ m.map e))) else none) = _
  rw [List.length_map, List.length_map, if_pos h, ← List.map_append]
  rfl
theorem appD_eL {e : α → D} {l : List α} {a : α} (h : l.length < lim) : appD (eL e l) (e a) = some (eL e (l ++ [a])) := by
  show (if (l.map e).length < lim then some (PyData.list (l.map e ++ [e a])) else none) = _
  rw [List.length_map, if_pos h]
  simp [eL]
theorem extD_eL {e : α → D} {l m : List α} (h : l.length + m.length ≤ lim) : extD (eL e l) (eL e m) = some (eL e (l ++ m)) := by
  show (if (l.map e).length + (m.map e).length ≤ lim then some (PyData.list (l.map e ++ m.map e)) else none) = _
  rw [List.length_map, List.length_map, if_pos h, ← List.map_append]
  rfl
@[simp] theorem filter_yes (l : List α) : l.filter (fun _ => true) = l := List.filter_eq_self.mpr fun _ _ => rfl
/-- [e for t in it for t1 in it1] -/
theorem comp2_map {own own1 : List Nat} {t t1 : MT} {fi fi1 : FA} {fe : FE} {ρ ρ0 : Ev} (e : α → D) (e1 : γ → D) (f : β → D) (xs : List α) (ys : α → List γ) (g : α → γ → β)
    (hi : fi ρ = .ok (xs.map e, ρ)) (hn : noOw ρ own = true) (h0 : wipeE own ρ = ρ0) (hb : backE own ρ ρ0 = ρ) (k : Nat) (hk : ∀ x ∈ xs, (ys x).length ≤ k) (hl : xs.length * k ≤ lim)
    (hs : ∀ x ∈ xs, ∃ ρ1, asgT t (e x) ρ0 = some ρ1 ∧ wipeE own ρ1 = ρ0 ∧ (fi1 ρ1 = .ok ((ys x).map e1, ρ1) ∧ ∃ ρ2, wipeE own1 ρ1 = ρ2 ∧ wipeE own ρ2 = ρ0 ∧ ∀ y ∈ ys x, ∃ ρ3, asgT t1 (e1 y) ρ2 = some ρ3 ∧ fFz fe ρ3 = .ok (f (g x y), ρ3) ∧ wipeE own1 ρ3 = ρ2)) :
    fComp2 own own1 t fi cYes t1 fi1 cYes fe ρ = .ok (.fr (eL f (xs.flatMap fun x => (ys x).map (g x))), ρ) := by
  have len : ∀ l : List α, (∀ x ∈ l, (ys x).length ≤ k) → (l.flatMap fun x => ys x).length ≤ l.length * k := fun l => by
    induction l with
    | nil => intro _; simp
    | cons a l ih =>
      intro h
      have h1 := h a (by simp)
      have h2 := ih fun x hx => h x (by simp [hx])
      rw [List.flatMap_cons, List.length_append, List.length_cons, Nat.succ_mul]
      omega
  have := comp2_enc (own := own) (own1 := own1) (t := t) (t1 := t1) (fi := fi) (fi1 := fi1) (fc := cYes) (fc1 := cYes) (fe := fe) e e1 f xs (fun _ => true) ys (fun _ _ => true) g hi hn h0 hb (by
    rw [filter_yes]
    exact Nat.le_trans (len xs hk) hl) (fun x hx => by
    obtain ⟨ρ1, h1, h2, h3, ρ2, h4, h5, h6⟩ := hs x hx
    exact ⟨ρ1, h1, rfl, h2, fun _ => ⟨h3, ρ2, h4, h5, fun y hy => by
      obtain ⟨ρ3, g1, g2, g3⟩ := h6 y hy
      exact ⟨ρ3, g1, rfl, fun _ => g2, g3⟩⟩⟩)
  simpa using this
theorem loopK_map {κ : Type} [DecidableEq κ] {own : List Nat} {t : MT} {fk fv : FE} {ρ0 : Ev} (e : α → D) (ek : κ → D) (ev : β → D) {kf : κ → NestedKey} {n : Nat} [KeyF ek kf n] [TupF ek] (hn : n ≤ 8) (k : α → κ) (v : α → β) : ∀ (xs : List α) (acc : List (κ × β)),
    (acc.map (·.1) ++ xs.map k).Nodup → acc.length + xs.length ≤ lim →
    (∀ x ∈ xs, ∃ ρ1, asgT t (e x) ρ0 = some ρ1 ∧ fFz fk ρ1 = .ok (ek (k x), ρ1) ∧ fFz fv ρ1 = .ok (ev (v x), ρ1) ∧ wipeE own ρ1 = ρ0) →
    loopC (turnK own t cYes fk fv) (xs.map e) ρ0 (acc.map fun p => (ek p.1, ev p.2)) = .ok (ρ0, (acc ++ xs.map fun x => (k x, v x)).map fun p => (ek p.1, ev p.2))
  | [], acc, _, _, _ => by simp [loopC]
  | x :: xs, acc, h1, h2, h3 => by
    obtain ⟨ρ1, g1, g2, g3, g4⟩ := h3 x (by simp)
    have hx : k x ∉ acc.map (·.1) := by
      intro z
      rw [List.nodup_append] at h1
      exact h1.2.2 _ z _ (by simp) rfl
    have ih := loopK_map (own := own) (t := t) (fk := fk) (fv := fv) (ρ0 := ρ0) e ek ev hn k v xs (acc ++ [(k x, v x)]) (by simpa using h1) (by simp at h2 ⊢; omega) (fun y hy => h3 y (by simp [hy]))
    rw [List.map_cons, loopC]
    unfold turnK
    rw [g1, lift_some, ok_bind, cYes_eq, ok_bind]
    simp only [if_true]
    rw [g2, ok_bind, g3, ok_bind]
    simp only
    rw [keyT_enc hn, lift_some, ok_bind, dput_enc, List.length_map, if_pos (by simp at h2; omega), pure_ok, ok_bind, g4]
    have : aput acc (k x) (v x) = acc ++ [(k x, v x)] := by
      unfold aput
      rw [if_neg hx]
    rw [this]
    refine Eq.trans ih ?_
    simp
/-- {k: v for t in it}, the keys unlike -/
theorem dcomp_map {κ : Type} [DecidableEq κ] {own : List Nat} {t : MT} {fi : FA} {fk fv : FE} {ρ ρ0 : Ev} (e : α → D) (ek : κ → D) (ev : β → D) {kf : κ → NestedKey} {n : Nat} [KeyF ek kf n] [TupF ek] (hn : n ≤ 8) (xs : List α) (k : α → κ) (v : α → β) (hnd : (xs.map k).Nodup)
    (hi : fi ρ = .ok (xs.map e, ρ)) (hno : noOw ρ own = true) (h0 : wipeE own ρ = ρ0) (hb : backE own ρ ρ0 = ρ) (hl : xs.length ≤ lim)
    (hs : ∀ x ∈ xs, ∃ ρ1, asgT t (e x) ρ0 = some ρ1 ∧ fFz fk ρ1 = .ok (ek (k x), ρ1) ∧ fFz fv ρ1 = .ok (ev (v x), ρ1) ∧ wipeE own ρ1 = ρ0) :
    fDcomp own t fi cYes fk fv ρ = .ok (.fr (eD ek ev (xs.map fun x => (k x, v x))), ρ) := by
  unfold fDcomp
  rw [hi, ok_bind, if_pos hno, h0]
  have key := loopK_map (own := own) (t := t) (fk := fk) (fv := fv) (ρ0 := ρ0) e ek ev hn k v xs [] (by simpa using hnd) (by simpa using hl) hs
  rw [List.map_nil, List.nil_append] at key
  simp only
  rw [key, noEx_ok, ok_bind]
  simp only
  rw [if_pos (plainD_enc _), pure_ok, hb]
  rfl
@[simp] theorem mulD_int {i j : Int} : mulD (.int i) (.int j) = if i.natAbs < 2 ^ 64 ∨ j.natAbs < 2 ^ 64 then some (.sh (.int (i * j))) else none := rfl
theorem noOw_one {i : Nat} {ρ : Ev} {d : D} (h : ρ[i]? = some (.sh d)) : noOw ρ [i] = true := by simp [noOw, h]
end VL

set_option linter.all false
set_option maxRecDepth 100000
/-! K1: states, turns. -/
namespace VL
open PySem PySem.W PyProof.Rows
abbrev St : Type := List Int
abbrev eS : St → D := eT PyData.int
def allSt : Nat → List St
  | 0 => [[]]
  | n + 1 => (allSt n).flatMap fun s => [s ++ [0], s ++ [1]]
theorem mem_allSt : ∀ {n : Nat} {s : St}, s ∈ allSt n ↔ s.length = n ∧ ∀ x ∈ s, x = 0 ∨ x = 1
  | 0, s => by
    simp [allSt]
    intro h
    subst h
    simp
  | n + 1, s => by
    rw [allSt, List.mem_flatMap]
    constructor
    · rintro ⟨u, hu, h⟩
      obtain ⟨h1, h2⟩ := mem_allSt.mp hu
      simp at h
      rcases h with rfl | rfl
      · refine ⟨by simp [h1], fun x hx => ?_⟩
        rcases List.mem_append.mp hx with hx | hx
        · exact h2 x hx
        · simp at hx; exact .inl hx
      · refine ⟨by simp [h1], fun x hx => ?_⟩
        rcases List.mem_append.mp hx with hx | hx
        · exact h2 x hx
        · simp at hx; exact .inr hx
    · rintro ⟨h1, h2⟩
      have hne : s ≠ [] := by intro e; subst e; simp at h1
      have e := List.dropLast_concat_getLast hne
      refine ⟨s.dropLast, mem_allSt.mpr ⟨by rw [List.length_dropLast, h1]; rfl, fun x hx => h2 x (List.dropLast_sublist s |>.subset hx)⟩, ?_⟩
      rcases h2 _ (List.getLast_mem hne) with h | h
      · rw [h] at e; simp [e]
      · rw [h] at e; simp [e]
theorem length_allSt : ∀ n, (allSt n).length = 2 ^ n
  | 0 => rfl
  | n + 1 => by
    rw [allSt, List.length_flatMap]
    have : ((allSt n).map fun s => ([s ++ [0], s ++ [1]] : List St).length) = (allSt n).map fun _ => 2 := by simp
    rw [this]
    have h2 : ∀ l : List St, (l.map fun _ => 2).sum = 2 * l.length := fun l => by
      induction l with
      | nil => rfl
      | cons a l ih => simp [ih]; omega
    rw [h2, length_allSt n, Nat.pow_succ]
    omega
theorem allSt_nodup : ∀ {n : Nat}, n ≤ 4 → (allSt n).Nodup
  | 0, _ => by decide +kernel
  | 1, _ => by decide +kernel
  | 2, _ => by decide +kernel
  | 3, _ => by decide +kernel
  | 4, _ => by decide +kernel
  | n + 5, h => by omega
theorem small_allSt {n : Nat} (hn : n ≤ 4) : (allSt n).length ≤ 16 := by
  rw [length_allSt]
  exact Nat.pow_le_pow_right (by decide) hn
/-- a state with a switch turned -/
def turn (s : St) (i : Int) : St := s.take i.toNat ++ [1 - s.getD i.toNat 0] ++ s.drop (i.toNat + 1)
theorem length_turn {s : St} {i : Int} (h : i.toNat < s.length) : (turn s i).length = s.length := by
  simp [turn]
  omega
theorem turn_mem {n : Nat} {s : St} {i : Int} (hs : s ∈ allSt n) (h0 : 0 ≤ i) (hi : i < n) : turn s i ∈ allSt n := by
  obtain ⟨h1, h2⟩ := mem_allSt.mp hs
  refine mem_allSt.mpr ⟨by rw [length_turn (by omega), h1], fun x hx => ?_⟩
  unfold turn at hx
  simp only [List.mem_append, List.mem_singleton] at hx
  rcases hx with (hx | hx) | hx
  · exact h2 x (List.mem_of_mem_take hx)
  · have hl : i.toNat < s.length := by omega
    have := h2 _ (List.getElem_mem hl)
    rw [List.getD_eq_getElem?_getD, List.getElem?_eq_getElem hl] at hx
    simp at hx
    omega
  · exact h2 x (List.mem_of_mem_drop hx)
/-- the product of some switches -/
def prodT (a s : St) : Int := if a.all (fun i => decide (s.getD i.toNat 0 = 1)) then 1 else 0
abbrev En : Type := List (St × Int)
abbrev eQ : St × Int → D := eP eS PyData.int
abbrev eE : En → D := eT eQ
def valT (E : En) (s : St) : Int := (E.map fun q => q.2 * prodT q.1 s).sum
def AskOk (n : Nat) (a : St) : Prop := a.length ≤ 4 ∧ (∀ i ∈ a, 0 ≤ i ∧ i < n) ∧ ∀ q ∈ a.zip (a.drop 1), q.1 < q.2
def TermOk (n : Nat) (q : St × Int) : Prop := AskOk n q.1 ∧ q.1 ≠ [] ∧ q.2 ≠ 0 ∧ q.2.natAbs < 10 ^ 60
def marks (E : En) : List (Int × St) := E.map fun q => ((q.1.length : Int), q.1)
def EOk (n : Nat) (E : En) : Prop := E.length ≤ 16 ∧ (∀ q ∈ E, TermOk n q) ∧ ∀ q ∈ (marks E).zip ((marks E).drop 1), lexP ltI (lexB ltI) q.1 q.2 = true
def nbs (s : St) : List St := (rngI s.length).map (turn s)
theorem prod_small (a s : St) : (prodT a s).natAbs < 18446744073709551616 := by
  unfold prodT
  split <;> decide
theorem getD_of {s : St} {i : Int} (h0 : 0 ≤ i) (hi : i < s.length) : s[i.toNat]? = some (s.getD i.toNat 0) := by
  rw [List.getD_eq_getElem?_getD, List.getElem?_eq_getElem (show i.toNat < s.length by omega)]
  rfl
/-- the values of an energy are right at the states of n switches -/
theorem EOk.val {n : Nat} {E : En} (h : EOk n E) : (∀ q ∈ E, ∀ i ∈ q.1, 0 ≤ i ∧ i < (n : Int)) ∧ (∀ q ∈ E, q.1.length ≤ 4) ∧ E.length ≤ 16 := ⟨fun q hq => (h.2.1 q hq).1.2.1, fun q hq => (h.2.1 q hq).1.1, h.1⟩
/-- the table of values -/
abbrev tblT (n : Nat) (V : St → Int) : List (St × Int) := (allSt n).map fun s => (s, V s)
abbrev eTb : List (St × Int) → D := eD eS PyData.int
theorem bind_ex {α β S : Type} {x : Res α} {f : α → Res β} {r : Res β} {P : S → Prop} {g : S → α} (h : ∃ s, P s ∧ x = .ok (g s)) (k : ∀ s, P s → f (g s) = r) : (x >>= f) = r := by
  obtain ⟨s, h1, h2⟩ := h
  rw [h2, ok_bind, k s h1]
theorem bind_of {α β : Type} {x : Res α} {f : α → Res β} {r : Res β} (a : α) (h : x = .ok a) (k : f a = r) : (x >>= f) = r := by
  rw [h, ok_bind, k]
end VL

set_option linter.all false
set_option maxRecDepth 100000
/-! K2: what is reached; lots. -/
namespace VL
open PySem PySem.W PyProof.Rows
inductive Rch {α : Type} (R : α → α → Prop) (a : α) : α → Prop
  | refl : Rch R a a
  | step {b c : α} : Rch R a b → R b c → Rch R a c
theorem Rch.mem {α : Type} {R : α → α → Prop} {a s : α} (h : Rch R a s) {P : α → Prop} (h0 : P a) (h1 : ∀ b c, P b → R b c → P c) : P s := by
  induction h with
  | refl => exact h0
  | step _ r ih => exact h1 _ _ ih r
theorem Rch.trans {α : Type} {R : α → α → Prop} {a b c : α} (h : Rch R a b) (k : Rch R b c) : Rch R a c := by
  induction k with
  | refl => exact h
  | step _ r ih => exact .step ih r
theorem nodup_len {α : Type} [DecidableEq α] : ∀ (l m : List α), l.Nodup → (∀ a ∈ l, a ∈ m) → l.length ≤ m.length
  | [], m, _, _ => Nat.zero_le _
  | a :: l, m, h, hs => by
    rw [List.nodup_cons] at h
    have ha := hs a (by simp)
    have := nodup_len l (m.erase a) h.2 fun b hb => by
      refine (List.mem_erase_of_ne ?_).mpr (hs b (by simp [hb]))
      intro e
      subst e
      exact h.1 hb
    rw [List.length_erase_of_mem ha] at this
    have : 0 < m.length := List.length_pos_of_mem ha
    simp
    omega
theorem lot_small {n : Nat} (hn : n ≤ 4) {l : List St} (h : l.Nodup) (hs : ∀ s ∈ l, s ∈ allSt n) : l.length ≤ 16 := Nat.le_trans (nodup_len l _ h hs) (small_allSt hn)
theorem alook_tbl {β : Type} {V : St → β} {s : St} : ∀ {l : List St}, s ∈ l → alook (l.map fun s => (s, V s)) s = some (V s)
  | [], h => by cases h
  | a :: l, h => by
    rw [List.map_cons, alook]
    by_cases q : a = s
    · rw [if_pos q, q]
    · rw [if_neg q]
      rcases List.mem_cons.mp h with z | z
      · exact absurd z.symm q
      · exact alook_tbl z
theorem mem_nbs {n : Nat} {s x : St} (hs : s ∈ allSt n) (hx : x ∈ nbs s) : x ∈ allSt n := by
  unfold nbs at hx
  obtain ⟨i, hi, rfl⟩ := List.mem_map.mp hx
  obtain ⟨h0, h1⟩ := mem_rngI.mp hi
  rw [(mem_allSt.mp hs).1] at h1
  exact turn_mem hs h0 h1
def eO : Option St → D
  | none => .none
  | some s => eS s
abbrev Ways : Type := List (St × Option St)
abbrev keys (w : Ways) : List St := w.map (·.1)
theorem aput_new {β : Type} {l : List (St × β)} {k : St} {v : β} (h : k ∉ l.map (·.1)) : aput l k v = l ++ [(k, v)] := by
  unfold aput
  rw [if_neg h]
/-- one turn of the walk -/
def stepW (V : St → Int) (m : Int) (p : St) (w : Ways) (x : St) : Ways := if x ∉ keys w ∧ V x ≤ m then w ++ [(x, some p)] else w
theorem foldW {V : St → Int} {m : Int} {p : St} : ∀ (xs : List St) (w : Ways), (keys w).Nodup →
    (keys (xs.foldl (stepW V m p) w)).Nodup ∧ (∃ r, keys (xs.foldl (stepW V m p) w) = keys w ++ r) ∧ (∀ x ∈ xs, V x ≤ m → x ∈ keys (xs.foldl (stepW V m p) w)) ∧ ∀ s ∈ keys (xs.foldl (stepW V m p) w), s ∈ keys w ∨ (s ∈ xs ∧ V s ≤ m)
  | [], w, h => ⟨h, ⟨[], by simp⟩, fun x hx => (nomatch hx), fun s hs => .inl hs⟩
  | x :: xs, w, h => by
    rw [List.foldl_cons]
    by_cases q : x ∉ keys w ∧ V x ≤ m
    · have e : stepW V m p w x = w ++ [(x, some p)] := by unfold stepW; rw [if_pos q]
      have ek : keys (w ++ [(x, some p)]) = keys w ++ [x] := by simp [keys]
      rw [e]
      obtain ⟨h1, ⟨r, h2⟩, h3, h4⟩ := foldW (V := V) (m := m) (p := p) xs (w ++ [(x, some p)]) (by
        rw [ek, List.nodup_append]
        exact ⟨h, by simp, fun a ha b hb z => by simp at hb; subst hb; subst z; exact q.1 ha⟩)
      rw [ek] at h2 h4
      refine ⟨h1, ⟨[x] ++ r, by rw [h2]; simp⟩, fun y hy hv => ?_, fun s hs => ?_⟩
      · rcases List.mem_cons.mp hy with rfl | hy
        · rw [h2]; simp
        · exact h3 y hy hv
      · rcases h4 s hs with z | z
        · rcases List.mem_append.mp z with z | z
          · exact .inl z
          · simp at z; subst z; exact .inr ⟨by simp, q.2⟩
        · exact .inr ⟨by simp [z.1], z.2⟩
    · have e : stepW V m p w x = w := by unfold stepW; rw [if_neg q]
      rw [e]
      obtain ⟨h1, h2, h3, h4⟩ := foldW (V := V) (m := m) (p := p) xs w h
      obtain ⟨r, h2⟩ := h2
      refine ⟨h1, ⟨r, h2⟩, fun y hy hv => ?_, fun s hs => ?_⟩
      · rcases List.mem_cons.mp hy with rfl | hy
        · have : y ∈ keys w := Classical.byContradiction fun z => q ⟨z, hv⟩
          rw [h2]; simp only [List.mem_append]; exact .inl this
        · exact h3 y hy hv
      · rcases h4 s hs with z | z
        · exact .inl z
        · exact .inr ⟨by simp [z.1], z.2⟩
theorem foldl_fst {α β γ : Type} (g : β → α → β) (h : β → α → γ) : ∀ (xs : List α) (s : β × γ), (xs.foldl (fun s x => (g s.1 x, h s.1 x)) s).1 = xs.foldl g s.1
  | [], s => rfl
  | x :: xs, s => by rw [List.foldl_cons, List.foldl_cons, foldl_fst g h xs]
theorem foldl_and {α S : Type} {P : S → Prop} (f : S → α → S) (h : ∀ s x, P s → P (f s x)) : ∀ (xs : List α) (s : S), P s → P (xs.foldl f s)
  | [], s, hp => hp
  | x :: xs, s, hp => foldl_and f h xs (f s x) (h s x hp)
/-- within m -/
def RW (V : St → Int) (m : Int) (b c : St) : Prop := c ∈ nbs b ∧ V c ≤ m
def InW (V : St → Int) (m : Int) (a s : St) : Prop := V a ≤ m ∧ Rch (RW V m) a s
theorem InW.val {V : St → Int} {m : Int} {a s : St} (h : InW V m a s) : V s ≤ m := h.2.mem h.1 fun _ _ _ r => r.2
theorem InW.st {n : Nat} {V : St → Int} {m : Int} {a s : St} (ha : a ∈ allSt n) (h : InW V m a s) : s ∈ allSt n := h.2.mem ha fun _ _ hb r => mem_nbs hb r.1
/-- the walk's invariant -/
structure InvW (n : Nat) (V : St → Int) (m : Int) (a : St) (w : Ways) (k : Nat) : Prop where
  nd : (keys w).Nodup
  le : k ≤ (keys w).length
  beg : a ∈ keys w
  inn : ∀ s ∈ keys w, InW V m a s
  cl : ∀ i p, i < k → (keys w)[i]? = some p → ∀ x ∈ nbs p, V x ≤ m → x ∈ keys w
theorem InvW.step {n : Nat} {V : St → Int} {m : Int} {a : St} {w : Ways} {k : Nat} {p : St} (h : InvW n V m a w k) (hp : (keys w)[k]? = some p) : InvW n V m a ((nbs p).foldl (stepW V m p) w) (k + 1) := by
  obtain ⟨h1, ⟨r, h2⟩, h3, h4⟩ := foldW (V := V) (m := m) (p := p) (nbs p) w h.nd
  have hk := (List.getElem?_eq_some_iff.mp hp).1
  refine ⟨h1, ?_, ?_, fun s hs => ?_, fun i q hi hq x hx hv => ?_⟩
  · rw [h2, List.length_append]; omega
  · rw [h2]; exact List.mem_append.mpr (.inl h.beg)
  · rcases h4 s hs with z | z
    · exact h.inn s z
    · have := h.inn p (List.mem_of_getElem? hp)
      exact ⟨this.1, .step this.2 z⟩
  · have hq' : (keys w)[i]? = some q := by
      rw [h2, List.getElem?_append_left (by omega)] at hq
      exact hq
    by_cases z : i = k
    · subst z
      rw [hp] at hq'
      cases hq'
      exact h3 x hx hv
    · rw [h2]
      exact List.mem_append.mpr (.inl (h.cl i q (by omega) hq' x hx hv))
theorem InvW.fin {n : Nat} {V : St → Int} {m : Int} {a : St} {w : Ways} {k : Nat} (h : InvW n V m a w k) (hk : (keys w).length ≤ k) (s : St) : s ∈ keys w ↔ InW V m a s := by
  refine ⟨h.inn s, fun z => z.2.mem h.beg fun b c hb r => ?_⟩
  obtain ⟨i, hi, e⟩ := List.getElem_of_mem hb
  exact h.cl i b (by omega) (by rw [List.getElem?_eq_getElem hi, e]) c r.1 r.2
end VL

set_option linter.all false
set_option maxRecDepth 100000
/-! K3: lines between any two states; what a run tells, as a typed value. -/
namespace VL
open PySem PySem.W PyProof.Rows
def mix (a b : St) (k : Nat) : St := b.take k ++ a.drop k
theorem mix_step {n k : Nat} {a b : St} (ha : a ∈ allSt n) (hb : b ∈ allSt n) (hk : k < n) : mix a b (k + 1) = mix a b k ∨ mix a b (k + 1) = turn (mix a b k) k := by
  obtain ⟨la, va⟩ := mem_allSt.mp ha
  obtain ⟨lb, vb⟩ := mem_allSt.mp hb
  have ka : k < a.length := by omega
  have kb : k < b.length := by omega
  have e1 : b.take (k + 1) = b.take k ++ [b[k]] := by rw [List.take_succ_eq_append_getElem kb]
  have e2 : a.drop k = a[k] :: a.drop (k + 1) := List.drop_eq_getElem_cons ka
  have lt : (b.take k).length = k := by rw [List.length_take]; omega
  rcases va _ (List.getElem_mem ka) with h | h <;> rcases vb _ (List.getElem_mem kb) with g | g
  · left; unfold mix; rw [e1, e2, h, g]; simp
  · right
    unfold mix turn
    rw [e1, e2, h, g]
    simp [List.take_append, List.drop_append, lt, List.getElem?_append_right, Nat.min_eq_left (show k ≤ b.length by omega)]
  · right
    unfold mix turn
    rw [e1, e2, h, g]
    simp [List.take_append, List.drop_append, lt, List.getElem?_append_right, Nat.min_eq_left (show k ≤ b.length by omega)]
  · left; unfold mix; rw [e1, e2, h, g]; simp
theorem mix_mem {n k : Nat} {a b : St} (ha : a ∈ allSt n) (hb : b ∈ allSt n) (hk : k ≤ n) : mix a b k ∈ allSt n := by
  obtain ⟨la, va⟩ := mem_allSt.mp ha
  obtain ⟨lb, vb⟩ := mem_allSt.mp hb
  refine mem_allSt.mpr ⟨by simp [mix]; omega, fun x hx => ?_⟩
  unfold mix at hx
  rcases List.mem_append.mp hx with h | h
  · exact vb x (List.mem_of_mem_take h)
  · exact va x (List.mem_of_mem_drop h)
theorem turn_nbs {n : Nat} {s : St} (hs : s ∈ allSt n) {i : Int} (h0 : 0 ≤ i) (hi : i < n) : turn s i ∈ nbs s := by
  unfold nbs
  exact List.mem_map.mpr ⟨i, mem_rngI.mpr ⟨h0, by rw [(mem_allSt.mp hs).1]; exact hi⟩, rfl⟩
theorem all_led {n : Nat} {V : St → Int} {m : Int} {a b : St} (ha : a ∈ allSt n) (hb : b ∈ allSt n) (hm : ∀ s ∈ allSt n, V s ≤ m) : InW V m a b := by
  refine ⟨hm a ha, ?_⟩
  have key : ∀ k, k ≤ n → Rch (RW V m) a (mix a b k) := by
    intro k
    induction k with
    | zero =>
      intro _
      have : mix a b 0 = a := by simp [mix]
      rw [this]
      exact .refl
    | succ k ih =>
      intro hk
      have h := ih (by omega)
      have hmem := mix_mem ha hb (show k ≤ n by omega)
      rcases mix_step ha hb (show k < n by omega) with e | e
      · rw [e]; exact h
      · refine .step h ⟨?_, hm _ (mix_mem ha hb hk)⟩
        rw [e]
        exact turn_nbs hmem (by omega) (by omega)
  have := key n (Nat.le_refl n)
  have e : mix a b n = b := by
    unfold mix
    rw [List.take_of_length_le (by rw [(mem_allSt.mp hb).1]; omega), List.drop_of_length_le (by rw [(mem_allSt.mp ha).1]; omega), List.append_nil]
  rw [e] at this
  exact this
theorem max_of {α : Type} (V : α → Int) : ∀ (l : List α), l ≠ [] → ∃ s ∈ l, ∀ x ∈ l, V x ≤ V s
  | [], h => absurd rfl h
  | [a], _ => ⟨a, by simp, fun x hx => by simp at hx; subst hx; omega⟩
  | a :: b :: l, _ => by
    obtain ⟨s, h1, h2⟩ := max_of V (b :: l) (by simp)
    by_cases q : V s ≤ V a
    · refine ⟨a, by simp, fun x hx => ?_⟩
      rcases List.mem_cons.mp hx with rfl | hx
      · omega
      · have := h2 x hx; omega
    · refine ⟨s, by simp at h1 ⊢; exact .inr h1, fun x hx => ?_⟩
      rcases List.mem_cons.mp hx with rfl | hx
      · omega
      · exact h2 x hx
theorem min_of {α : Type} (V : α → Int) (l : List α) (h : l ≠ []) : ∃ s ∈ l, ∀ x ∈ l, V s ≤ V x := by
  obtain ⟨s, h1, h2⟩ := max_of (fun x => - V x) l h
  exact ⟨s, h1, fun x hx => by have := h2 x hx; omega⟩
theorem find_least {α : Type} {lt : α → α → Bool} [h : LtOk lt] {p : α → Bool} : ∀ {l : List α} {x : α}, l.Pairwise (fun a b => lt b a = false) → l.find? p = some x → ∀ y ∈ l, p y = true → lt y x = false
  | [], x, _, hf, y, hy, _ => by cases hy
  | a :: l, x, hp, hf, y, hy, hq => by
    rw [List.pairwise_cons] at hp
    rw [List.find?_cons] at hf
    cases q : p a with
    | true =>
      rw [q] at hf
      cases hf
      rcases List.mem_cons.mp hy with rfl | hy
      · exact h.irr _
      · exact hp.1 y hy
    | false =>
      rw [q] at hf
      rcases List.mem_cons.mp hy with rfl | hy
      · rw [q] at hq; cases hq
      · exact find_least hp.2 hf y hy hq
theorem enc_inj {α : Type} [DecidableEq α] {e : α → D} [h : EncF e] {a b : α} (q : e a = e b) : a = b := by
  have h1 := h.eqv a b
  rw [← q, h.eqv a a] at h1
  simpa using h1
/-- what a run tells, as a typed value -/
noncomputable def runT {α : Type} [Inhabited α] (e : α → D) (r : Res (D × List D)) : α := open Classical in if h : ∃ a, r = .ok (e a, []) then h.choose else default
theorem runT_eq {α : Type} [Inhabited α] [DecidableEq α] {e : α → D} [EncF e] {r : Res (D × List D)} {a : α} (h : r = .ok (e a, [])) : runT e r = a := by
  have hx : ∃ a, r = .ok (e a, []) := ⟨a, h⟩
  unfold runT
  rw [dif_pos hx]
  have := h.symm.trans hx.choose_spec
  injection this with this
  injection this with this
  exact (enc_inj this).symm
theorem runT_ok {α : Type} [Inhabited α] [DecidableEq α] {e : α → D} [EncF e] {r : Res (D × List D)} {a : α} (h : r = .ok (e a, [])) : r = .ok (e (runT e r), []) := by
  rw [runT_eq h]
  exact h
theorem nbs_nodup : ∀ {n : Nat}, n ≤ 4 → ∀ s ∈ allSt n, (nbs s).Nodup
  | 0, _ => by decide +kernel
  | 1, _ => by decide +kernel
  | 2, _ => by decide +kernel
  | 3, _ => by decide +kernel
  | 4, _ => by decide +kernel
  | n + 5, h => by omega
/-- each turn leads back -/
theorem nbs_back : ∀ {n : Nat}, n ≤ 4 → ∀ s ∈ allSt n, ∀ x ∈ nbs s, s ∈ nbs x
  | 0, _ => by decide +kernel
  | 1, _ => by decide +kernel
  | 2, _ => by decide +kernel
  | 3, _ => by decide +kernel
  | 4, _ => by decide +kernel
  | n + 5, h => by omega
theorem allSt_ne {n : Nat} : allSt n ≠ [] := by
  intro h
  have := length_allSt n
  rw [h] at this
  have := Nat.pos_of_neZero (2 ^ n)
  simp at *
  omega
end VL

set_option linter.all false
set_option maxRecDepth 100000
/-! K4: turns, nets of steps, the walk over steps. -/
namespace VL
open PySem PySem.W PyProof.Rows
abbrev Tn : Type := St × Int
def turnsT (n : Nat) : List Tn := (allSt n).flatMap fun s => (rngI n).map fun i => (s, i)
theorem mem_turnsT {n : Nat} {t : Tn} : t ∈ turnsT n ↔ t.1 ∈ allSt n ∧ 0 ≤ t.2 ∧ t.2 < n := by
  unfold turnsT
  rw [List.mem_flatMap]
  constructor
  · rintro ⟨s, hs, h⟩
    obtain ⟨i, hi, rfl⟩ := List.mem_map.mp h
    exact ⟨hs, mem_rngI.mp hi⟩
  · rintro ⟨h1, h2⟩
    exact ⟨t.1, h1, List.mem_map.mpr ⟨t.2, mem_rngI.mpr h2, rfl⟩⟩
theorem turnsT_nodup : ∀ {n : Nat}, n ≤ 4 → (turnsT n).Nodup
  | 0, _ => by decide +kernel
  | 1, _ => by decide +kernel
  | 2, _ => by decide +kernel
  | 3, _ => by decide +kernel
  | 4, _ => by decide +kernel
  | n + 5, h => by omega
theorem turnsT_small : ∀ {n : Nat}, n ≤ 4 → (turnsT n).length ≤ 64
  | 0, _ => by decide +kernel
  | 1, _ => by decide +kernel
  | 2, _ => by decide +kernel
  | 3, _ => by decide +kernel
  | 4, _ => by decide +kernel
  | n + 5, h => by omega
def chgT (E : En) (t : Tn) : Int := (E.map fun q => q.2 * (prodT q.1 (turn t.1 t.2) - prodT q.1 t.1)).sum
theorem chgT_eq (E : En) (t : Tn) : chgT E t = valT E (turn t.1 t.2) - valT E t.1 := by
  unfold chgT valT
  induction E with
  | nil => rfl
  | cons q E ih =>
    simp only [List.map_cons, List.sum_cons]
    rw [ih, Int.mul_sub]
    omega
/-- what a switch is next, by the steps -/
def gOf (S : List Tn) (i : Int) (s : St) : Int := if (s, i) ∈ S then 1 - s.getD i.toNat 0 else s.getD i.toNat 0
def netE (n : Nat) (g : Int → St → Int) : D := Dins 1 [eT eS ((rngI n).map fun i => (allSt n).map (g i)), eD eS eS ((allSt n).map fun s => (s, (rngI n).map fun i => g i s))]
abbrev netOf (n : Nat) (S : List Tn) : D := netE n (gOf S)
/-- the switches that want -/
def wT (n : Nat) (S : List Tn) (s : St) : List Int := (rngI n).filter fun i => decide ((s, i) ∈ S)
theorem mem_wT {n : Nat} {S : List Tn} {s : St} {i : Int} : i ∈ wT n S s ↔ (0 ≤ i ∧ i < n) ∧ (s, i) ∈ S := by
  unfold wT
  rw [List.mem_filter, mem_rngI]
  simp
def nxtT (n : Nat) (S : List Tn) (s : St) : List St := (wT n S s).map (turn s)
theorem enumT_eq (s : St) : enumT s = (rngI s.length).map fun i => (i, s.getD i.toNat 0) := by
  unfold enumT rngI
  apply List.ext_getElem
  · simp
  · intro k h1 h2
    have hk : k < s.length := by simpa using h2
    simp [List.getElem?_eq_getElem hk]
/-! ### a walk by lists of what is next -/
structure InvK (adj : St → List St) (a : St) (L : List St) (k : Nat) : Prop where
  nd : L.Nodup
  le : k ≤ L.length
  beg : a ∈ L
  inn : ∀ s ∈ L, Rch (fun b c => c ∈ adj b) a s
  cl : ∀ i p, i < k → L[i]? = some p → ∀ x ∈ adj p, x ∈ L
def addK (L : List St) (x : St) : List St := if x ∉ L then L ++ [x] else L
theorem foldK : ∀ (xs L : List St), L.Nodup → (xs.foldl addK L).Nodup ∧ (∃ r, xs.foldl addK L = L ++ r) ∧ (∀ x ∈ xs, x ∈ xs.foldl addK L) ∧ ∀ s ∈ xs.foldl addK L, s ∈ L ∨ s ∈ xs
  | [], L, h => ⟨h, ⟨[], by simp⟩, fun x hx => (nomatch hx), fun s hs => .inl hs⟩
  | x :: xs, L, h => by
    rw [List.foldl_cons]
    by_cases q : x ∉ L
    · have e : addK L x = L ++ [x] := by unfold addK; rw [if_pos q]
      rw [e]
      obtain ⟨h1, ⟨r, h2⟩, h3, h4⟩ := foldK xs (L ++ [x]) (by
        rw [List.nodup_append]
        exact ⟨h, by simp, fun a ha b hb z => by simp at hb; subst hb; subst z; exact q ha⟩)
      refine ⟨h1, ⟨[x] ++ r, by rw [h2]; simp⟩, fun y hy => ?_, fun s hs => ?_⟩
      · rcases List.mem_cons.mp hy with rfl | hy
        · rw [h2]; simp
        · exact h3 y hy
      · rcases h4 s hs with z | z
        · rcases List.mem_append.mp z with z | z
          · exact .inl z
          · simp at z; subst z; exact .inr (by simp)
        · exact .inr (by simp [z])
    · have e : addK L x = L := by unfold addK; rw [if_neg q]
      rw [e]
      obtain ⟨h1, ⟨r, h2⟩, h3, h4⟩ := foldK xs L h
      refine ⟨h1, ⟨r, h2⟩, fun y hy => ?_, fun s hs => ?_⟩
      · rcases List.mem_cons.mp hy with rfl | hy
        · rw [h2]
          exact List.mem_append.mpr (.inl (Classical.byContradiction fun z => q z))
        · exact h3 y hy
      · rcases h4 s hs with z | z
        · exact .inl z
        · exact .inr (by simp [z])
theorem InvK.step {adj : St → List St} {a : St} {L : List St} {k : Nat} {p : St} (h : InvK adj a L k) (hp : L[k]? = some p) : InvK adj a ((adj p).foldl addK L) (k + 1) := by
  obtain ⟨h1, ⟨r, h2⟩, h3, h4⟩ := foldK (adj p) L h.nd
  have hk := (List.getElem?_eq_some_iff.mp hp).1
  refine ⟨h1, ?_, ?_, fun s hs => ?_, fun i q hi hq x hx => ?_⟩
  · rw [h2, List.length_append]; omega
  · rw [h2]; exact List.mem_append.mpr (.inl h.beg)
  · rcases h4 s hs with z | z
    · exact h.inn s z
    · exact .step (h.inn p (List.mem_of_getElem? hp)) z
  · have hq' : L[i]? = some q := by
      rw [h2, List.getElem?_append_left (by omega)] at hq
      exact hq
    by_cases z : i = k
    · subst z
      rw [hp] at hq'
      cases hq'
      exact h3 x hx
    · rw [h2]
      exact List.mem_append.mpr (.inl (h.cl i q (by omega) hq' x hx))
theorem InvK.fin {adj : St → List St} {a : St} {L : List St} {k : Nat} (h : InvK adj a L k) (hk : L.length ≤ k) (s : St) : s ∈ L ↔ Rch (fun b c => c ∈ adj b) a s := by
  refine ⟨h.inn s, fun z => z.mem h.beg fun b c hb r => ?_⟩
  obtain ⟨i, hi, e⟩ := List.getElem_of_mem hb
  exact h.cl i b (by omega) (by rw [List.getElem?_eq_getElem hi, e]) c r
end VL

set_option linter.all false
set_option maxRecDepth 100000
/-! K5: the tape of draws; asked tuples; comprehensions that draw. -/
namespace VL
open PySem PySem.W PyProof.Rows
variable {α β γ : Type}
structure Tp where
  g : List Int
  c : List Int
  l : Int
  t : Int
def eTp (tp : Bool) (x : Tp) : D := Dtape tp x.g x.c x.l x.t
/-- a tape from which N numbers more may be drawn -/
def TpOk (x : Tp) (N : Nat) : Prop := x.g.length ≤ 63 ∧ 0 ≤ x.t ∧ x.t + N ≤ 1000000
theorem TpOk.mono {x : Tp} {N M : Nat} (h : TpOk x N) (hm : M ≤ N) : TpOk x M := ⟨h.1, h.2.1, by have := h.2.2; omega⟩
@[simp] theorem tapeOf_D {tp : Bool} {g c : List Int} {l t : Int} : tapeOf (Dtape tp g c l t) = some (tp, g, c, l, t) := by
  show (match intsOf (g.map .int), intsOf (c.map .int) with
    | some g', some c' => some (tp, g', c', l, t)
    | _, _ => none) = _
  rw [intsOf_map, intsOf_map]
@[simp] theorem tapeOf_e {tp : Bool} {x : Tp} : tapeOf (eTp tp x) = some (tp, x.g, x.c, x.l, x.t) := tapeOf_D
@[simp] theorem tapeAt_eq {i : Nat} {ρ : Ev} : tapeAt i ρ = (match ρ[i]? with
  | some (.ow d) => tapeOf d
  | _ => none) := rfl
@[simp] theorem fTint_eq {i f tp} {ρ : Ev} : fTint i f tp ρ = (match tapeAt i ρ with
  | some (tp', _, _, l, t) => if f = true ∨ tp' = tp then .ok (.sh (.int (if f then t else l)), ρ) else .bad
  | none => .bad) := rfl
@[simp] theorem fTcells_eq {i} {ρ : Ev} : fTcells i ρ = (match tapeAt i ρ with
  | some (_, _, c, _, _) => .ok (.sh (eL .int c), ρ)
  | none => .bad) := rfl
@[simp] theorem fTfull_eq {i tp} {ρ : Ev} : fTfull i tp ρ = (match tapeAt i ρ with
  | some (tp', g, _, _, _) => if tp' = tp then .ok (bl (!g.isEmpty), ρ) else .bad
  | none => .bad) := rfl
@[simp] theorem fTpop_eq {i tp} {ρ : Ev} : fTpop i tp ρ = (match tapeAt i ρ with
  | some (tp', x :: g, c, l, t) => if tp' = tp ∧ g.length < lim then .ok (.sh (.int x), ρ.set i (.ow (Dtape tp' g c l t))) else .bad
  | _ => .bad) := rfl
@[simp] theorem sTset_eq {i f tp fa} {ρ : Ev} : sTset i f tp fa ρ = (match tapeAt i ρ with
  | some _ => fa ρ >>= fun x => (match x.1, tapeAt i x.2 with
    | .sh (.int n), some (tp', g, c, l, t) => if f = true ∨ tp' = tp then .ok (.nx (x.2.set i (.ow (if f then Dtape tp' g c l n else Dtape tp' g c n t)))) else .bad
    | _, _ => .bad)
  | none => .bad) := rfl
theorem modD_pos {i j : Int} (h : 0 < j) : modD (.int i) (.int j) = some (.sh (.int (i % j))) := by
  show (if j ≠ 0 then some (Rv.sh (.int (i.fmod j))) else none) = _
  rw [if_pos (by omega), Int.fmod_eq_emod_of_nonneg _ (by omega)]
theorem fdivD_pos {i j : Int} (h : 0 < j) (h2 : j < 1073741824) : fdivD (.int i) (.int j) = some (.sh (.int (i.fdiv j))) := by
  show (if j ≠ 0 ∧ j.natAbs < 1073741824 then some (Rv.sh (.int (i.fdiv j))) else none) = _
  rw [if_pos ⟨by omega, by omega⟩]
theorem powD_nat {i : Int} {k : Nat} (hk : k ≤ 100) (hi : i.natAbs < 2 ^ 64) : powD (.int i) (.int k) = some (.sh (.int (i ^ k))) := by
  show (if 0 ≤ (k : Int) ∧ (k : Int) ≤ 100 ∧ i.natAbs < 2 ^ 64 then some (Rv.sh (.int (i ^ (k : Int).toNat))) else none) = _
  rw [if_pos ⟨by omega, by omega, hi⟩, Int.toNat_natCast]
/-- a comprehension whose parts draw: some of the items, in their sequence -/
theorem comp_draw {S : Type} {own : List Nat} {t : MT} {fc : FC} {fe : FE} (e : α → D) (f : α → D) (st : S → Ev) : ∀ (xs : List α) (P : List α → S → Prop) (s : S) (acc : List D), P xs s → acc.length + xs.length ≤ lim →
    (∀ x xs' s, P (x :: xs') s → ∃ ρ1 b ρ2 s', asgT t (e x) (st s) = some ρ1 ∧ fc ρ1 = .ok (b, ρ2) ∧ (b = true → fFz fe ρ2 = .ok (f x, ρ2)) ∧ wipeE own ρ2 = st s' ∧ P xs' s') →
    ∃ s' ys, P [] s' ∧ List.Sublist ys xs ∧ loopC (turnC own t fc fe) (xs.map e) (st s) acc = .ok (st s', acc ++ ys.map f)
  | [], P, s, acc, hp, _, _ => ⟨s, [], hp, .slnil, by simp [loopC]⟩
  | x :: xs, P, s, acc, hp, hl, h => by
    obtain ⟨ρ1, b, ρ2, s', h1, h2, h3, h4, h5⟩ := h x xs s hp
    cases b with
    | true =>
      obtain ⟨s2, ys, g1, g2, g3⟩ := comp_draw (own := own) (t := t) (fc := fc) (fe := fe) e f st xs P s' (acc ++ [f x]) h5 (by simp at hl ⊢; omega) h
      refine ⟨s2, x :: ys, g1, g2.cons₂ x, ?_⟩
      rw [List.map_cons, loopC]
      unfold turnC at g3 ⊢
      rw [h1, lift_some, ok_bind, h2, ok_bind]
      simp only [if_true]
      rw [h3 rfl, ok_bind, if_pos (by simp at hl; omega), pure_ok, ok_bind, h4]
      refine Eq.trans g3 ?_
      simp
    | false =>
      obtain ⟨s2, ys, g1, g2, g3⟩ := comp_draw (own := own) (t := t) (fc := fc) (fe := fe) e f st xs P s' acc h5 (by simp at hl; omega) h
      refine ⟨s2, ys, g1, g2.cons x, ?_⟩
      rw [List.map_cons, loopC]
      unfold turnC at g3 ⊢
      rw [h1, lift_some, ok_bind, h2, ok_bind]
      simp only [Bool.false_eq_true, if_false]
      rw [pure_ok, ok_bind, h4]
      exact g3
theorem map_erase (f : α → β) : ∀ (l : List α) (i : Nat), (l.map f).eraseIdx i = (l.eraseIdx i).map f
  | [], _ => rfl
  | a :: l, 0 => rfl
  | a :: l, i + 1 => by simp [map_erase f l i]
theorem popR_eL {e : α → D} {l : List α} {v : Int} {a : α} (h0 : 0 ≤ v) (h : l[v.toNat]? = some a) (hl : l.length ≤ lim) : popR (.sh (.int v)) (some (.ow (eL e l))) = some (e a, eL e (l.eraseIdx v.toNat)) := by
  have hk := (List.getElem?_eq_some_iff.mp h).1
  show (if 0 ≤ v ∧ v < ((l.map e).length : Int) ∧ (l.map e).length ≤ lim then ((l.map e)[v.toNat]?).map fun d => (d, PyData.list ((l.map e).eraseIdx v.toNat)) else none) = _
  rw [List.length_map, if_pos ⟨h0, by omega, hl⟩, List.getElem?_map, h]
  simp only [Option.map_some]
  rw [map_erase]
  rfl
/-! ### asked tuples -/
def subsT (k : Nat) : Nat → List St
  | 0 => [[]]
  | i + 1 => subsT k i ++ ((subsT k i).filter fun a => decide (a.length < k)).map fun a => a ++ [(i : Int)]
def askP (k n : Nat) : List (Int × St) := sortT (lexP ltI (lexB ltI)) (((subsT k n).filter fun a => decide (a ≠ [])).map fun a => ((a.length : Int), a))
def askT (k n : Nat) : List St := (askP k n).map (·.2)
instance (n : Nat) (a : St) : Decidable (AskOk n a) := by unfold AskOk; infer_instance
theorem subs_ok : ∀ {k n : Nat}, k ≤ 4 → n ≤ 4 → (subsT k n).Nodup ∧ (subsT k n).length ≤ 16 ∧ ∀ a ∈ subsT k n, AskOk n a := by
  have key : ∀ k ∈ List.range 5, ∀ n ∈ List.range 5, (subsT k n).Nodup ∧ (subsT k n).length ≤ 16 ∧ ∀ a ∈ subsT k n, AskOk n a := by decide +kernel
  intro k n hk hn
  exact key k (by rw [List.mem_range]; omega) n (by rw [List.mem_range]; omega)
theorem mem_askT {k n : Nat} {a : St} : a ∈ askT k n ↔ a ∈ subsT k n ∧ a ≠ [] := by
  unfold askT askP
  rw [List.mem_map]
  constructor
  · rintro ⟨p, hp, rfl⟩
    rw [mem_sortT, List.mem_map] at hp
    obtain ⟨b, hb, rfl⟩ := hp
    rw [List.mem_filter] at hb
    simpa using hb
  · rintro ⟨h1, h2⟩
    exact ⟨((a.length : Int), a), mem_sortT.mpr (List.mem_map.mpr ⟨a, List.mem_filter.mpr ⟨h1, by simpa using h2⟩, rfl⟩), rfl⟩
theorem askT_small {k n : Nat} (hk : k ≤ 4) (hn : n ≤ 4) : (askT k n).length ≤ 16 := by
  have := (subs_ok hk hn).2.1
  unfold askT askP
  rw [List.length_map, length_sortT, List.length_map]
  exact Nat.le_trans (List.length_filter_le _ _) this
theorem zip_pairwise {R : α → α → Prop} : ∀ {l : List α}, l.Pairwise R → ∀ q ∈ l.zip (l.drop 1), R q.1 q.2
  | [], _, q, h => by cases h
  | [a], _, q, h => by simp at h
  | a :: b :: l, hp, q, h => by
    rw [List.pairwise_cons] at hp
    have e : (a :: b :: l).zip ((a :: b :: l).drop 1) = (a, b) :: (b :: l).zip ((b :: l).drop 1) := rfl
    rw [e] at h
    rcases List.mem_cons.mp h with rfl | h
    · exact hp.1 b (by simp)
    · exact zip_pairwise hp.2 q h
theorem askP_pairwise {k n : Nat} (hk : k ≤ 4) (hn : n ≤ 4) : (askP k n).Pairwise fun a b => lexP ltI (lexB ltI) a b = true := by
  have h1 := sortT_pairwise (lt := lexP ltI (lexB ltI)) (((subsT k n).filter fun a => decide (a ≠ [])).map fun a => ((a.length : Int), a))
  have h2 : (askP k n).Nodup := by
    unfold askP
    rw [sortT_perm.nodup_iff]
    have := ((subs_ok hk hn).1).filter (fun a => decide (a ≠ []))
    exact List.Pairwise.map _ (fun a b (h : a ≠ b) (e : ((a.length : Int), a) = ((b.length : Int), b)) => h (Prod.mk.inj e).2) this
  exact (h1.and h2).imp fun {a b} h => by
    cases e : lexP ltI (lexB ltI) a b with
    | true => rfl
    | false => exact absurd (LtOk.tri a b e h.1) h.2
/-- energies made of some asked tuples -/
theorem EOk_of {k n : Nat} (hk : k ≤ 4) (hn : n ≤ 4) {E : En} (h1 : List.Sublist (E.map (·.1)) (askT k n)) (h2 : ∀ q ∈ E, q.2 ≠ 0 ∧ q.2.natAbs < 10 ^ 60) : EOk n E := by
  refine ⟨?_, fun q hq => ?_, ?_⟩
  · have := h1.length_le
    rw [List.length_map] at this
    exact Nat.le_trans this (askT_small hk hn)
  · have hm := mem_askT.mp (h1.subset (List.mem_map.mpr ⟨q, hq, rfl⟩))
    exact ⟨(subs_ok hk hn).2.2 _ hm.1, hm.2, h2 q hq⟩
  · have e : (askT k n).map (fun a => ((a.length : Int), a)) = askP k n := by
      unfold askT
      rw [List.map_map]
      conv => rhs; rw [← List.map_id (askP k n)]
      refine List.map_congr_left fun p hp => ?_
      unfold askP at hp
      rw [mem_sortT, List.mem_map] at hp
      obtain ⟨a, _, rfl⟩ := hp
      rfl
    have s2 : List.Sublist (marks E) (askP k n) := by
      rw [← e]
      have := h1.map (fun a : St => ((a.length : Int), a))
      rw [List.map_map] at this
      exact this
    exact zip_pairwise (List.Pairwise.sublist s2 (askP_pairwise hk hn))
end VL

set_option maxRecDepth 100000
set_option linter.all false
namespace VL
open PySem
def b_all_states : MB := (.cons (.set 1 false (.lst (.cons (.tup .nil) .nil))) (.cons (.for_ (.nm 2) (.rng1 (.var 0)) (.cons (.set 1 false (.comp2 [3, 4] [4] (.nm 3) (.seq (.var 1)) .nil (.nm 4) (.seq (.tup (.cons (.int (0)) (.cons (.int (1)) .nil)))) .nil (.tup (.star (.var 3) (.cons (.var 4) .nil))))) .nil)) (.cons (.ret (.var 1)) .nil)))
def m_all_states : MFn := defM [] false 5 1 (tb []) b_all_states
@[simp] theorem m_all_states_mp : m_all_states.mp = [] := rfl
@[simp] theorem m_all_states_fr : m_all_states.fresh = false := rfl
def b_product_at : MB := (.cons (.ret (.ite (.bi .all (.cons (.comp [2] (.nm 2) (.seq (.var 0)) .nil (.cmp .eq (.ix (.var 1) (.var 2)) (.int (1)))) .nil)) (.int (1)) (.int (0)))) .nil)
def m_product_at : MFn := defM [] false 3 2 (tb []) b_product_at
@[simp] theorem m_product_at_mp : m_product_at.mp = [] := rfl
@[simp] theorem m_product_at_fr : m_product_at.fresh = false := rfl
def b_value_by : MB := (.cons (.ret (.bi .sum (.cons (.comp [2, 3] (.tp [2, 3]) (.seq (.var 0)) .nil (.bin .mul (.var 3) (.call 0 (.cons (.var 2) (.cons (.var 1) .nil)) []))) .nil))) .nil)
def m_value_by : MFn := defM [] false 4 2 (tb [m_product_at]) b_value_by
@[simp] theorem m_value_by_mp : m_value_by.mp = [] := rfl
@[simp] theorem m_value_by_fr : m_value_by.fresh = false := rfl
def b_values_by : MB := (.cons (.ret (.dcomp [2] (.nm 2) (.seq (.call 0 (.cons (.var 0) .nil) [])) .nil (.var 2) (.call 1 (.cons (.var 1) (.cons (.var 2) .nil)) []))) .nil)
def m_values_by : MFn := defM [] false 3 2 (tb [m_all_states, m_value_by]) b_values_by
@[simp] theorem m_values_by_mp : m_values_by.mp = [] := rfl
@[simp] theorem m_values_by_fr : m_values_by.fresh = false := rfl
def b_is_number : MB := (.cons (.ret (.and (.ist (.var 0) [.int]) (.not (.ist (.var 0) [.bool])))) .nil)
def m_is_number : MFn := defM [] false 1 1 (tb []) b_is_number
@[simp] theorem m_is_number_mp : m_is_number.mp = [] := rfl
@[simp] theorem m_is_number_fr : m_is_number.fresh = false := rfl
def b_is_between : MB := (.cons (.ret (.and (.call 0 (.cons (.var 0) .nil) []) (.chain .le .le (.var 1) (.var 0) (.var 2)))) .nil)
def m_is_between : MFn := defM [] false 3 3 (tb [m_is_number]) b_is_between
@[simp] theorem m_is_between_mp : m_is_between.mp = [] := rfl
@[simp] theorem m_is_between_fr : m_is_between.fresh = false := rfl
def b_is_tuple_of : MB := (.cons (.ret (.and (.ist (.var 0) [.tuple]) (.and (.cmp .eq (.bi .len (.cons (.var 0) .nil)) (.var 1)) (.bi .all (.cons (.comp [4] (.nm 4) (.seq (.var 0)) .nil (.call 0 (.cons (.var 4) (.cons (.var 2) (.cons (.var 3) .nil))) [])) .nil))))) .nil)
def m_is_tuple_of : MFn := defM [] false 5 4 (tb [m_is_between]) b_is_tuple_of
@[simp] theorem m_is_tuple_of_mp : m_is_tuple_of.mp = [] := rfl
@[simp] theorem m_is_tuple_of_fr : m_is_tuple_of.fresh = false := rfl
def b_is_state : MB := (.cons (.ret (.call 0 (.cons (.var 1) (.cons (.var 0) (.cons (.int (0)) (.cons (.int (1)) .nil)))) [])) .nil)
def m_is_state : MFn := defM [] false 2 2 (tb [m_is_tuple_of]) b_is_state
@[simp] theorem m_is_state_mp : m_is_state.mp = [] := rfl
@[simp] theorem m_is_state_fr : m_is_state.fresh = false := rfl
def b_need_state : MB := (.cons (.ite (.not (.call 0 (.cons (.var 0) (.cons (.var 1) .nil)) [])) (.cons .stuck .nil) .nil) .nil)
def m_need_state : MFn := defM [] false 2 2 (tb [m_is_state]) b_need_state
@[simp] theorem m_need_state_mp : m_need_state.mp = [] := rfl
@[simp] theorem m_need_state_fr : m_need_state.fresh = false := rfl
def b_need_many : MB := (.cons (.ite (.not (.call 0 (.cons (.var 0) (.cons (.int (1)) (.cons (.int (4)) .nil))) [])) (.cons .stuck .nil) .nil) .nil)
def m_need_many : MFn := defM [] false 1 1 (tb [m_is_between]) b_need_many
@[simp] theorem m_need_many_mp : m_need_many.mp = [] := rfl
@[simp] theorem m_need_many_fr : m_need_many.fresh = false := rfl
def b_asked_mark : MB := (.cons (.ret (.tup (.cons (.bi .len (.cons (.var 0) .nil)) (.cons (.var 0) .nil)))) .nil)
def m_asked_mark : MFn := defM [] false 1 1 (tb []) b_asked_mark
@[simp] theorem m_asked_mark_mp : m_asked_mark.mp = [] := rfl
@[simp] theorem m_asked_mark_fr : m_asked_mark.fresh = false := rfl
def b_is_rising : MB := (.cons (.ret (.bi .all (.cons (.comp [1, 2] (.tp [1, 2]) (.zip (.var 0) (.slc (.var 0) (.cons (.int (1)) .nil) .nil)) .nil (.cmp .lt (.var 1) (.var 2))) .nil))) .nil)
def m_is_rising : MFn := defM [] false 3 1 (tb []) b_is_rising
@[simp] theorem m_is_rising_mp : m_is_rising.mp = [] := rfl
@[simp] theorem m_is_rising_fr : m_is_rising.fresh = false := rfl
def b_is_asked : MB := (.cons (.ite (.or (.not (.ist (.var 1) [.tuple])) (.not (.bi .all (.cons (.comp [2] (.nm 2) (.seq (.var 1)) .nil (.call 0 (.cons (.var 2) (.cons (.int (0)) (.cons (.bin .sub (.var 0) (.int (1))) .nil))) [])) .nil)))) (.cons (.ret (.bl false)) .nil) .nil) (.cons (.ret (.call 1 (.cons (.var 1) .nil) [])) .nil))
def m_is_asked : MFn := defM [] false 3 2 (tb [m_is_between, m_is_rising]) b_is_asked
@[simp] theorem m_is_asked_mp : m_is_asked.mp = [] := rfl
@[simp] theorem m_is_asked_fr : m_is_asked.fresh = false := rfl
def b_is_term : MB := (.cons (.ite (.or (.not (.ist (.var 1) [.tuple])) (.or (.cmp .ne (.bi .len (.cons (.var 1) .nil)) (.int (2))) (.or (.not (.call 0 (.cons (.var 0) (.cons (.ix (.var 1) (.int (0))) .nil)) [])) (.cmp .eq (.ix (.var 1) (.int (0))) (.tup .nil))))) (.cons (.ret (.bl false)) .nil) .nil) (.cons (.ret (.and (.call 1 (.cons (.ix (.var 1) (.int (1))) .nil) []) (.and (.cmp .ne (.ix (.var 1) (.int (1))) (.int (0))) (.cmp .lt (.bi .abs (.cons (.ix (.var 1) (.int (1))) .nil)) (.int (1000000000000000000000000000000000000000000000000000000000000)))))) .nil))
def m_is_term : MFn := defM [] false 2 2 (tb [m_is_asked, m_is_number]) b_is_term
@[simp] theorem m_is_term_mp : m_is_term.mp = [] := rfl
@[simp] theorem m_is_term_fr : m_is_term.fresh = false := rfl
def b_is_energy_by : MB := (.cons (.ite (.or (.not (.ist (.var 1) [.tuple])) (.not (.bi .all (.cons (.comp [3] (.nm 3) (.seq (.var 1)) .nil (.call 1 (.cons (.var 0) (.cons (.var 3) .nil)) [])) .nil)))) (.cons (.ret (.bl false)) .nil) .nil) (.cons (.set 2 false (.comp [3] (.nm 3) (.seq (.var 1)) .nil (.call 0 (.cons (.ix (.var 3) (.int (0))) .nil) []))) (.cons (.ret (.bi .all (.cons (.comp [4, 5] (.tp [4, 5]) (.zip (.var 2) (.slc (.var 2) (.cons (.int (1)) .nil) .nil)) .nil (.cmp .lt (.var 4) (.var 5))) .nil))) .nil)))
def m_is_energy_by : MFn := defM [] false 6 2 (tb [m_asked_mark, m_is_term]) b_is_energy_by
@[simp] theorem m_is_energy_by_mp : m_is_energy_by.mp = [] := rfl
@[simp] theorem m_is_energy_by_fr : m_is_energy_by.fresh = false := rfl
def b_need_energy : MB := (.cons (.ite (.not (.call 0 (.cons (.var 0) (.cons (.var 1) .nil)) [])) (.cons .stuck .nil) .nil) .nil)
def m_need_energy : MFn := defM [] false 3 3 (tb [m_is_energy_by]) b_need_energy
@[simp] theorem m_need_energy_mp : m_need_energy.mp = [] := rfl
@[simp] theorem m_need_energy_fr : m_need_energy.fresh = false := rfl
def b_need_switches_energy : MB := (.cons (.expr (.call 1 (.cons (.var 0) .nil) [])) (.cons (.expr (.call 0 (.cons (.var 0) (.cons (.var 1) .nil)) [.none])) .nil))
def m_need_switches_energy : MFn := defM [] false 2 2 (tb [m_need_energy, m_need_many]) b_need_switches_energy
@[simp] theorem m_need_switches_energy_mp : m_need_switches_energy.mp = [] := rfl
@[simp] theorem m_need_switches_energy_fr : m_need_switches_energy.fresh = false := rfl
def b_need_energy_state : MB := (.cons (.expr (.call 1 (.cons (.var 0) (.cons (.var 1) .nil)) [])) (.cons (.expr (.call 0 (.cons (.var 0) (.cons (.var 2) .nil)) [])) .nil))
def m_need_energy_state : MFn := defM [] false 3 3 (tb [m_need_state, m_need_switches_energy]) b_need_energy_state
@[simp] theorem m_need_energy_state_mp : m_need_energy_state.mp = [] := rfl
@[simp] theorem m_need_energy_state_fr : m_need_energy_state.fresh = false := rfl
def b_turned_at : MB := (.cons (.ret (.tup (.star (.slc (.var 0) .nil (.cons (.var 1) .nil)) (.cons (.bin .sub (.int (1)) (.ix (.var 0) (.var 1))) (.star (.slc (.var 0) (.cons (.bin .add (.var 1) (.int (1))) .nil) .nil) .nil))))) .nil)
def m_turned_at : MFn := defM [] false 2 2 (tb []) b_turned_at
@[simp] theorem m_turned_at_mp : m_turned_at.mp = [] := rfl
@[simp] theorem m_turned_at_fr : m_turned_at.fresh = false := rfl
def b_states_beside : MB := (.cons (.ret (.comp [1] (.nm 1) (.rng1 (.bi .len (.cons (.var 0) .nil))) .nil (.call 0 (.cons (.var 0) (.cons (.var 1) .nil)) []))) .nil)
def m_states_beside : MFn := defM [] false 2 1 (tb [m_turned_at]) b_states_beside
@[simp] theorem m_states_beside_mp : m_states_beside.mp = [] := rfl
@[simp] theorem m_states_beside_fr : m_states_beside.fresh = false := rfl
def b_ways_within : MB := (.cons (.ite (.cmp .gt (.ix (.var 0) (.var 1)) (.var 2)) (.cons (.ret .dic0) .nil) .nil) (.cons (.par [3, 4, 5] [true, true, false] (.cons (.dic1 (.var 1) .non) (.cons (.lst (.cons (.var 1) .nil)) (.cons (.int (0)) .nil)))) (.cons (.whl (.cmp .lt (.var 5) (.bi .len (.cons (.var 4) .nil))) (.cons (.for_ (.nm 6) (.seq (.call 0 (.cons (.ix (.var 4) (.var 5)) .nil) [])) (.cons (.ite (.and (.cmp .notin (.var 6) (.var 3)) (.cmp .le (.ix (.var 0) (.var 6)) (.var 2))) (.cons (.put 3 (.var 6) (.ix (.var 4) (.var 5))) (.cons (.app 4 (.var 6)) .nil)) .nil) .nil)) (.cons (.aug .add 5 (.int (1))) .nil))) (.cons (.ret (.var 3)) .nil))))
def m_ways_within : MFn := defM [] false 7 3 (tb [m_states_beside]) b_ways_within
@[simp] theorem m_ways_within_mp : m_ways_within.mp = [] := rfl
@[simp] theorem m_ways_within_fr : m_ways_within.fresh = false := rfl
def b_height_by : MB := (.cons (.for_ (.nm 3) (.seq (.biv .sorted (.var 0))) (.cons (.ite (.cmp .isin (.var 2) (.call 0 (.cons (.var 0) (.cons (.var 1) (.cons (.var 3) .nil))) [])) (.cons (.ret (.var 3)) .nil) .nil) .nil)) (.cons .stuck .nil))
def m_height_by : MFn := defM [] false 4 3 (tb [m_ways_within]) b_height_by
@[simp] theorem m_height_by_mp : m_height_by.mp = [] := rfl
@[simp] theorem m_height_by_fr : m_height_by.fresh = false := rfl
def b_depth_by : MB := (.cons (.set 2 false (.comp [3] (.nm 3) (.seq (.var 0)) (.cons (.cmp .lt (.ix (.var 0) (.var 3)) (.ix (.var 0) (.var 1))) .nil) (.var 3))) (.cons (.ite (.cmp .eq (.var 2) (.lst .nil)) (.cons (.ret .non) .nil) .nil) (.cons (.ret (.bin .sub (.bi .min (.cons (.comp [3] (.nm 3) (.seq (.var 2)) .nil (.call 0 (.cons (.var 0) (.cons (.var 1) (.cons (.var 3) .nil))) [])) .nil)) (.ix (.var 0) (.var 1)))) .nil)))
def m_depth_by : MFn := defM [] false 4 2 (tb [m_height_by]) b_depth_by
@[simp] theorem m_depth_by_mp : m_depth_by.mp = [] := rfl
@[simp] theorem m_depth_by_fr : m_depth_by.fresh = false := rfl
def b_depth : MB := (.cons (.expr (.call 1 (.cons (.var 0) (.cons (.var 1) (.cons (.var 2) .nil))) [])) (.cons (.ret (.call 0 (.cons (.call 2 (.cons (.var 0) (.cons (.var 1) .nil)) []) (.cons (.var 2) .nil)) [])) .nil))
def m_depth : MFn := defM [] false 3 3 (tb [m_depth_by, m_need_energy_state, m_values_by]) b_depth
@[simp] theorem m_depth_mp : m_depth.mp = [] := rfl
@[simp] theorem m_depth_fr : m_depth.fresh = false := rfl
def b_level_of : MB := (.cons (.par [2, 3] [true, false] (.cons (.lst (.cons (.var 1) .nil)) (.cons (.int (0)) .nil))) (.cons (.whl (.cmp .lt (.var 3) (.bi .len (.cons (.var 2) .nil))) (.cons (.set 4 false (.comp [5] (.nm 5) (.seq (.call 0 (.cons (.ix (.var 2) (.var 3)) .nil) [])) (.cons (.cmp .eq (.ix (.var 0) (.var 5)) (.ix (.var 0) (.var 1))) .nil) (.var 5))) (.cons (.ext 2 (.comp [5] (.nm 5) (.seq (.var 4)) (.cons (.cmp .notin (.var 5) (.var 2)) .nil) (.var 5))) (.cons (.aug .add 3 (.int (1))) .nil)))) (.cons (.ret (.bi .tuple (.cons (.bi .sorted (.cons (.var 2) .nil)) .nil))) .nil)))
def m_level_of : MFn := defM [] false 6 2 (tb [m_states_beside]) b_level_of
@[simp] theorem m_level_of_mp : m_level_of.mp = [] := rfl
@[simp] theorem m_level_of_fr : m_level_of.fresh = false := rfl
def b_bottoms_by : MB := (.cons (.set 1 true (.lst .nil)) (.cons (.for_ (.nm 2) (.seq (.var 0)) (.cons (.set 3 false (.call 0 (.cons (.var 0) (.cons (.var 2) .nil)) [])) (.cons (.set 4 false (.comp2 [5, 6] [6] (.nm 5) (.seq (.var 3)) .nil (.nm 6) (.seq (.call 1 (.cons (.var 5) .nil) [])) (.cons (.cmp .lt (.ix (.var 0) (.var 6)) (.ix (.var 0) (.var 2))) .nil) (.var 6))) (.cons (.ite (.and (.cmp .eq (.ix (.var 3) (.int (0))) (.var 2)) (.cmp .eq (.var 4) (.lst .nil))) (.cons (.app 1 (.var 3)) .nil) .nil) .nil)))) (.cons (.ret (.var 1)) .nil)))
def m_bottoms_by : MFn := defM [] false 7 1 (tb [m_level_of, m_states_beside]) b_bottoms_by
@[simp] theorem m_bottoms_by_mp : m_bottoms_by.mp = [] := rfl
@[simp] theorem m_bottoms_by_fr : m_bottoms_by.fresh = false := rfl
def b_bottoms : MB := (.cons (.expr (.call 1 (.cons (.var 0) (.cons (.var 1) .nil)) [])) (.cons (.ret (.call 0 (.cons (.call 2 (.cons (.var 0) (.cons (.var 1) .nil)) []) .nil) [])) .nil))
def m_bottoms : MFn := defM [] false 2 2 (tb [m_bottoms_by, m_need_switches_energy, m_values_by]) b_bottoms
@[simp] theorem m_bottoms_mp : m_bottoms.mp = [] := rfl
@[simp] theorem m_bottoms_fr : m_bottoms.fresh = false := rfl
def b_is_list : MB := (.cons (.ret (.ist (.var 0) [.list, .tuple])) .nil)
def m_is_list : MFn := defM [] false 1 1 (tb []) b_is_list
@[simp] theorem m_is_list_mp : m_is_list.mp = [] := rfl
@[simp] theorem m_is_list_fr : m_is_list.fresh = false := rfl
def b_states_many : MB := (.cons (.ret (.bi .len (.cons (.call 0 (.cons (.var 0) .nil) []) .nil))) .nil)
def m_states_many : MFn := defM [] false 1 1 (tb [m_all_states]) b_states_many
@[simp] theorem m_states_many_mp : m_states_many.mp = [] := rfl
@[simp] theorem m_states_many_fr : m_states_many.fresh = false := rfl
def b_need_rules : MB := (.cons (.ite (.or (.not (.call 0 (.cons (.var 0) .nil) [])) (.not (.chain .le .le (.int (1)) (.bi .len (.cons (.var 0) .nil)) (.int (4))))) (.cons .stuck .nil) .nil) (.cons (.set 1 false (.call 2 (.cons (.bi .len (.cons (.var 0) .nil)) .nil) [])) (.cons (.for_ (.tp [2, 3]) (.enum (.var 0)) (.cons (.ite (.not (.call 1 (.cons (.var 3) (.cons (.var 1) (.cons (.int (0)) (.cons (.int (1)) .nil)))) [])) (.cons .stuck .nil) .nil) .nil)) .nil)))
def m_need_rules : MFn := defM [] false 4 1 (tb [m_is_list, m_is_tuple_of, m_states_many]) b_need_rules
@[simp] theorem m_need_rules_mp : m_need_rules.mp = [] := rfl
@[simp] theorem m_need_rules_fr : m_need_rules.fresh = false := rfl
def b_Net_init : MB := (.cons (.expr (.call 1 (.cons (.var 1) .nil) [])) (.cons (.sfld 0 1 0 (.bi .tuple (.cons (.var 1) .nil))) (.cons (.set 2 true .dic0) (.cons (.for_ (.tp [3, 4]) (.enum (.call 0 (.cons (.bi .len (.cons (.var 1) .nil)) .nil) [])) (.cons (.put 2 (.var 4) (.bi .tuple (.cons (.comp [5] (.nm 5) (.seq (.var 1)) .nil (.ix (.var 5) (.var 3))) .nil))) .nil)) (.cons (.sfld 0 1 1 (.var 2)) .nil)))))
def m_Net_init : MFn := defM [0] false 6 2 (tb [m_all_states, m_need_rules]) b_Net_init
@[simp] theorem m_Net_init_mp : m_Net_init.mp = [0] := rfl
@[simp] theorem m_Net_init_fr : m_Net_init.fresh = false := rfl
def b_net_by_steps : MB := (.cons (.set 2 false (.dcomp [7] (.nm 7) (.seq (.var 1)) .nil (.var 7) (.bl true))) (.cons (.set 3 true (.lst .nil)) (.cons (.for_ (.nm 4) (.rng1 (.var 0)) (.cons (.set 5 true (.lst .nil)) (.cons (.for_ (.nm 6) (.seq (.call 1 (.cons (.var 0) .nil) [])) (.cons (.app 5 (.ite (.cmp .isin (.tup (.cons (.var 6) (.cons (.var 4) .nil))) (.var 2)) (.bin .sub (.int (1)) (.ix (.var 6) (.var 4))) (.ix (.var 6) (.var 4)))) .nil)) (.cons (.app 3 (.bi .tuple (.cons (.var 5) .nil))) .nil)))) (.cons (.ret (.new 1 0 (.cons (.var 3) .nil))) .nil))))
def m_net_by_steps : MFn := defM [] false 8 2 (tb [m_Net_init, m_all_states]) b_net_by_steps
@[simp] theorem m_net_by_steps_mp : m_net_by_steps.mp = [] := rfl
@[simp] theorem m_net_by_steps_fr : m_net_by_steps.fresh = false := rfl
def b_behind_step : MB := (.cons (.ret (.call 0 (.cons (.ix (.var 0) (.int (0))) (.cons (.ix (.var 0) (.int (1))) .nil)) [])) .nil)
def m_behind_step : MFn := defM [] false 1 1 (tb [m_turned_at]) b_behind_step
@[simp] theorem m_behind_step_mp : m_behind_step.mp = [] := rfl
@[simp] theorem m_behind_step_fr : m_behind_step.fresh = false := rfl
def b_turn_in : MB := (.cons (.ret (.bin .sub (.call 1 (.cons (.var 0) (.cons (.call 0 (.cons (.var 1) .nil) []) .nil)) []) (.call 1 (.cons (.var 0) (.cons (.ix (.var 1) (.int (0))) .nil)) []))) .nil)
def m_turn_in : MFn := defM [] false 2 2 (tb [m_behind_step, m_product_at]) b_turn_in
@[simp] theorem m_turn_in_mp : m_turn_in.mp = [] := rfl
@[simp] theorem m_turn_in_fr : m_turn_in.fresh = false := rfl
def b_change_by : MB := (.cons (.ret (.bi .sum (.cons (.comp [2, 3] (.tp [2, 3]) (.seq (.var 0)) .nil (.bin .mul (.var 3) (.call 0 (.cons (.var 2) (.cons (.var 1) .nil)) []))) .nil))) .nil)
def m_change_by : MFn := defM [] false 4 2 (tb [m_turn_in]) b_change_by
@[simp] theorem m_change_by_mp : m_change_by.mp = [] := rfl
@[simp] theorem m_change_by_fr : m_change_by.fresh = false := rfl
def b_turns_by : MB := (.cons (.ret (.comp2 [1, 2] [2] (.nm 1) (.seq (.call 0 (.cons (.var 0) .nil) [])) .nil (.nm 2) (.rng1 (.var 0)) .nil (.tup (.cons (.var 1) (.cons (.var 2) .nil))))) .nil)
def m_turns_by : MFn := defM [] false 3 1 (tb [m_all_states]) b_turns_by
@[simp] theorem m_turns_by_mp : m_turns_by.mp = [] := rfl
@[simp] theorem m_turns_by_fr : m_turns_by.fresh = false := rfl
def b_net_by_energy : MB := (.cons (.ret (.call 1 (.cons (.var 0) (.cons (.comp [2] (.nm 2) (.seq (.call 2 (.cons (.var 0) .nil) [])) (.cons (.cmp .lt (.call 0 (.cons (.var 1) (.cons (.var 2) .nil)) []) (.int (0))) .nil) (.var 2)) .nil)) [])) .nil)
def m_net_by_energy : MFn := defM [] false 3 2 (tb [m_change_by, m_net_by_steps, m_turns_by]) b_net_by_energy
@[simp] theorem m_net_by_energy_mp : m_net_by_energy.mp = [] := rfl
@[simp] theorem m_net_by_energy_fr : m_net_by_energy.fresh = false := rfl
def b_net_of_energy : MB := (.cons (.expr (.call 0 (.cons (.var 0) (.cons (.var 1) .nil)) [])) (.cons (.ret (.call 1 (.cons (.var 0) (.cons (.var 1) .nil)) [])) .nil))
def m_net_of_energy : MFn := defM [] false 2 2 (tb [m_need_switches_energy, m_net_by_energy]) b_net_of_energy
@[simp] theorem m_net_of_energy_mp : m_net_of_energy.mp = [] := rfl
@[simp] theorem m_net_of_energy_fr : m_net_of_energy.fresh = false := rfl
def b_law_begun : MB := (.cons (.set 1 true (.comp [2] (.nm 2) (.seq (.var 0)) (.cons (.cmp .ge (.bi .abs (.cons (.var 2) .nil)) (.bin .pow (.int (10)) (.int (18)))) .nil) (.bin .sub (.bi .abs (.cons (.var 2) .nil)) (.bin .pow (.int (10)) (.int (18)))))) (.cons (.rtape 1 false (.comp [2] (.nm 2) (.seq (.var 0)) .nil (.bi .abs (.cons (.var 2) .nil)))) .nil))
def m_law_begun : MFn := defM [] true 3 1 (tb []) b_law_begun
@[simp] theorem m_law_begun_mp : m_law_begun.mp = [] := rfl
@[simp] theorem m_law_begun_fr : m_law_begun.fresh = true := rfl
def b_law_blended : MB := (.cons (.par [2, 3] [false, false] (.cons (.bin .add (.tint 0 true false) (.int (1))) (.cons (.int (0)) .nil))) (.cons (.tset 0 true false (.var 2)) (.cons (.for_ (.nm 1) (.seq (.lst (.cons (.int (2147482063)) (.cons (.int (2147482021)) (.cons (.int (2147481997)) .nil))))) (.cons (.set 4 false (.bin .add (.bin .mul (.int (40127)) (.var 2)) (.bin .fdiv (.var 1) (.int (71))))) (.cons (.for_ (.nm 5) (.seq (.tcells 0)) (.cons (.set 4 false (.bin .mod (.bi .int (.cons (.bin .add (.bin .add (.bin .mul (.var 4) (.int (69621))) (.var 5)) (.var 2)) .nil)) (.var 1))) .nil)) (.cons (.set 3 false (.bin .add (.bin .mul (.var 3) (.int (2147483647))) (.bin .mod (.bi .int (.cons (.bin .pow (.var 4) (.int (5))) .nil)) (.var 1)))) .nil)))) (.cons (.ret (.var 3)) .nil))))
def m_law_blended : MFn := defM [0] false 6 1 (tb []) b_law_blended
@[simp] theorem m_law_blended_mp : m_law_blended.mp = [0] := rfl
@[simp] theorem m_law_blended_fr : m_law_blended.fresh = false := rfl
def b_law_draw : MB := (.cons (.ite (.cmp .eq (.tint 0 false false) (.int (0))) (.cons (.tset 0 false false (.ite (.tfull 0 false) (.tpop 0 false) (.call 0 (.cons (.var 0) .nil) []))) .nil) .nil) (.cons (.set 2 false (.bin .mod (.bi .int (.cons (.tint 0 false false) .nil)) (.var 1))) (.cons (.tset 0 false false (.bin .fdiv (.bi .int (.cons (.tint 0 false false) .nil)) (.var 1))) (.cons (.ret (.var 2)) .nil))))
def m_law_draw : MFn := defM [0] false 3 2 (tb [m_law_blended]) b_law_draw
@[simp] theorem m_law_draw_mp : m_law_draw.mp = [0] := rfl
@[simp] theorem m_law_draw_fr : m_law_draw.fresh = false := rfl
def b_law_mixed : MB := (.cons (.par [2, 3] [true, true] (.cons (.bi .list (.cons (.var 1) .nil)) (.cons (.lst .nil) .nil))) (.cons (.whl (.cmp .ne (.var 2) (.lst .nil)) (.cons (.app 3 (.pop 2 (.call 0 (.cons (.var 0) (.cons (.bi .len (.cons (.var 2) .nil)) .nil)) []))) .nil)) (.cons (.ret (.var 3)) .nil)))
def m_law_mixed : MFn := defM [0] false 4 2 (tb [m_law_draw]) b_law_mixed
@[simp] theorem m_law_mixed_mp : m_law_mixed.mp = [0] := rfl
@[simp] theorem m_law_mixed_fr : m_law_mixed.fresh = false := rfl
def b_law_states : MB := (.cons (.set 1 false (.lst (.cons (.tup .nil) .nil))) (.cons (.for_ (.nm 2) (.rng1 (.var 0)) (.cons (.set 3 false (.lst .nil)) (.cons (.for_ (.nm 4) (.seq (.var 1)) (.cons (.set 3 false (.bin .add (.var 3) (.lst (.cons (.bin .add (.var 4) (.tup (.cons (.int (0)) .nil))) (.cons (.bin .add (.var 4) (.tup (.cons (.int (1)) .nil))) .nil))))) .nil)) (.cons (.set 1 false (.var 3)) .nil)))) (.cons (.ret (.var 1)) .nil)))
def m_law_states : MFn := defM [] false 5 1 (tb []) b_law_states
@[simp] theorem m_law_states_mp : m_law_states.mp = [] := rfl
@[simp] theorem m_law_states_fr : m_law_states.fresh = false := rfl
def b_law_asked : MB := (.cons (.set 2 false (.lst (.cons (.tup .nil) .nil))) (.cons (.for_ (.nm 3) (.rng1 (.var 0)) (.cons (.set 2 false (.bin .add (.var 2) (.comp [5] (.nm 5) (.seq (.var 2)) (.cons (.cmp .lt (.bi .len (.cons (.var 5) .nil)) (.var 1)) .nil) (.bin .add (.var 5) (.tup (.cons (.var 3) .nil)))))) .nil)) (.cons (.ret (.comp [4, 5] (.tp [4, 5]) (.seq (.bi .sorted (.cons (.comp [5] (.nm 5) (.seq (.var 2)) (.cons (.cmp .ne (.var 5) (.tup .nil)) .nil) (.tup (.cons (.bi .len (.cons (.var 5) .nil)) (.cons (.var 5) .nil)))) .nil))) .nil (.var 5))) .nil)))
def m_law_asked : MFn := defM [] false 6 2 (tb []) b_law_asked
@[simp] theorem m_law_asked_mp : m_law_asked.mp = [] := rfl
@[simp] theorem m_law_asked_fr : m_law_asked.fresh = false := rfl
def b_law_energy : MB := (.cons (.par [4, 5] [false, false] (.cons (.call 1 (.cons (.var 0) (.cons (.int (4)) .nil)) []) (.cons (.lst .nil) .nil))) (.cons (.for_ (.nm 3) (.seq (.call 0 (.cons (.var 1) (.cons (.var 2) .nil)) [])) (.cons (.set 6 false (.bin .sub (.call 1 (.cons (.var 0) (.cons (.int (7)) .nil)) []) (.int (3)))) (.cons (.ite (.cmp .eq (.var 4) (.int (1))) (.cons (.set 6 false (.bin .sub (.call 1 (.cons (.var 0) (.cons (.int (3)) .nil)) []) (.int (1)))) .nil) .nil) (.cons (.ite (.cmp .eq (.var 4) (.int (2))) (.cons (.set 6 false (.bin .add (.bin .mul (.var 6) (.bin .pow (.int (10)) (.int (20)))) (.call 1 (.cons (.var 0) (.cons (.bin .pow (.int (10)) (.int (9))) .nil)) []))) .nil) .nil) (.cons (.ite (.cmp .eq (.var 4) (.int (3))) (.cons (.set 6 false (.ite (.cmp .eq (.call 1 (.cons (.var 0) (.cons (.int (3)) .nil)) []) (.int (0))) (.var 6) (.int (0)))) .nil) .nil) (.cons (.set 5 false (.bin .add (.var 5) (.ite (.cmp .ne (.var 6) (.int (0))) (.lst (.cons (.tup (.cons (.var 3) (.cons (.var 6) .nil))) .nil)) (.lst .nil)))) .nil)))))) (.cons (.ret (.bi .tuple (.cons (.var 5) .nil))) .nil)))
def m_law_energy : MFn := defM [0] false 7 3 (tb [m_law_asked, m_law_draw]) b_law_energy
@[simp] theorem m_law_energy_mp : m_law_energy.mp = [0] := rfl
@[simp] theorem m_law_energy_fr : m_law_energy.fresh = false := rfl
def b_Net_switches : MB := (.cons (.ret (.bi .len (.cons (.fld (.var 0) 1 0) .nil))) .nil)
def m_Net_switches : MFn := defM [] false 1 1 (tb []) b_Net_switches
@[simp] theorem m_Net_switches_mp : m_Net_switches.mp = [] := rfl
@[simp] theorem m_Net_switches_fr : m_Net_switches.fresh = false := rfl
def b_need_net : MB := (.cons (.ite (.not (.ist (.var 0) [.cls 1])) (.cons .stuck .nil) .nil) .nil)
def m_need_net : MFn := defM [] false 2 2 (tb []) b_need_net
@[simp] theorem m_need_net_mp : m_need_net.mp = [] := rfl
@[simp] theorem m_need_net_fr : m_need_net.fresh = false := rfl
def b_need_net_state : MB := (.cons (.expr (.call 1 (.cons (.var 0) .nil) [.none])) (.cons (.expr (.call 2 (.cons (.prop (.var 0) 1 0) (.cons (.var 1) .nil)) [])) .nil))
def m_need_net_state : MFn := defM [] false 2 2 (tb [m_Net_switches, m_need_net, m_need_state]) b_need_net_state
@[simp] theorem m_need_net_state_mp : m_need_net_state.mp = [] := rfl
@[simp] theorem m_need_net_state_fr : m_need_net_state.fresh = false := rfl
def b_next_by : MB := (.cons (.ret (.ix (.fld (.var 0) 1 1) (.var 1))) .nil)
def m_next_by : MFn := defM [] false 2 2 (tb []) b_next_by
@[simp] theorem m_next_by_mp : m_next_by.mp = [] := rfl
@[simp] theorem m_next_by_fr : m_next_by.fresh = false := rfl
def b_wants_by : MB := (.cons (.set 2 false (.call 0 (.cons (.var 0) (.cons (.var 1) .nil)) [])) (.cons (.ret (.bi .tuple (.cons (.comp [3, 4] (.tp [3, 4]) (.enum (.var 1)) (.cons (.cmp .ne (.ix (.var 2) (.var 3)) (.var 4)) .nil) (.var 3)) .nil))) .nil))
def m_wants_by : MFn := defM [] false 5 2 (tb [m_next_by]) b_wants_by
@[simp] theorem m_wants_by_mp : m_wants_by.mp = [] := rfl
@[simp] theorem m_wants_by_fr : m_wants_by.fresh = false := rfl
def b_wants : MB := (.cons (.expr (.call 0 (.cons (.var 0) (.cons (.var 1) .nil)) [])) (.cons (.ret (.call 1 (.cons (.var 0) (.cons (.var 1) .nil)) [])) .nil))
def m_wants : MFn := defM [] false 2 2 (tb [m_need_net_state, m_wants_by]) b_wants
@[simp] theorem m_wants_mp : m_wants.mp = [] := rfl
@[simp] theorem m_wants_fr : m_wants.fresh = false := rfl
def b_need_states : MB := (.cons (.expr (.call 1 (.cons (.var 0) (.cons (.var 1) .nil)) [])) (.cons (.expr (.call 0 (.cons (.var 0) (.cons (.var 2) .nil)) [])) (.cons (.expr (.call 0 (.cons (.var 0) (.cons (.var 3) .nil)) [])) (.cons (.ite (.cmp .eq (.var 2) (.var 3)) (.cons .stuck .nil) .nil) .nil))))
def m_need_states : MFn := defM [] false 4 4 (tb [m_need_state, m_need_switches_energy]) b_need_states
@[simp] theorem m_need_states_mp : m_need_states.mp = [] := rfl
@[simp] theorem m_need_states_fr : m_need_states.fresh = false := rfl
def b_pass_height : MB := (.cons (.expr (.call 1 (.cons (.var 0) (.cons (.var 1) (.cons (.var 2) (.cons (.var 3) .nil)))) [])) (.cons (.ret (.call 0 (.cons (.call 2 (.cons (.var 0) (.cons (.var 1) .nil)) []) (.cons (.var 2) (.cons (.var 3) .nil))) [])) .nil))
def m_pass_height : MFn := defM [] false 4 4 (tb [m_height_by, m_need_states, m_values_by]) b_pass_height
@[simp] theorem m_pass_height_mp : m_pass_height.mp = [] := rfl
@[simp] theorem m_pass_height_fr : m_pass_height.fresh = false := rfl
def b_tie_turns : MB := (.cons (.expr (.call 1 (.cons (.var 0) (.cons (.var 1) .nil)) [])) (.cons (.ret (.comp [2] (.nm 2) (.seq (.call 2 (.cons (.var 0) .nil) [])) (.cons (.cmp .eq (.call 0 (.cons (.var 1) (.cons (.var 2) .nil)) []) (.int (0))) .nil) (.var 2))) .nil))
def m_tie_turns : MFn := defM [] false 3 2 (tb [m_change_by, m_need_switches_energy, m_turns_by]) b_tie_turns
@[simp] theorem m_tie_turns_mp : m_tie_turns.mp = [] := rfl
@[simp] theorem m_tie_turns_fr : m_tie_turns.fresh = false := rfl
def b_law_is_whole : MB := (.cons (.ret (.and (.ist (.var 0) [.int]) (.not (.ist (.var 0) [.bool])))) .nil)
def m_law_is_whole : MFn := defM [] false 1 1 (tb []) b_law_is_whole
@[simp] theorem m_law_is_whole_mp : m_law_is_whole.mp = [] := rfl
@[simp] theorem m_law_is_whole_fr : m_law_is_whole.fresh = false := rfl
def b_law_value : MB := (.cons (.ret (.bi .sum (.cons (.comp [2, 3] (.tp [2, 3]) (.seq (.var 0)) (.cons (.cmp .eq (.comp [4] (.nm 4) (.seq (.var 2)) (.cons (.cmp .eq (.ix (.var 1) (.var 4)) (.int (0))) .nil) (.var 4)) (.lst .nil)) .nil) (.var 3)) .nil))) .nil)
def m_law_value : MFn := defM [] false 5 2 (tb []) b_law_value
@[simp] theorem m_law_value_mp : m_law_value.mp = [] := rfl
@[simp] theorem m_law_value_fr : m_law_value.fresh = false := rfl
def b_law_depth_right : MB := (.cons (.par [7, 8] [false, false] (.cons (.call 2 (.cons (.var 1) (.cons (.var 3) .nil)) []) (.cons (.bi .min (.cons (.comp [9] (.nm 9) (.seq (.call 1 (.cons (.var 0) .nil) [])) .nil (.call 2 (.cons (.var 1) (.cons (.var 9) .nil)) [])) .nil)) .nil))) (.cons (.set 4 false (.call 3 (.cons (.var 0) (.cons (.var 1) (.cons (.var 3) .nil))) [])) (.cons (.ite (.or (.cmp .ne (.cmp .isN (.var 4) .non) (.cmp .eq (.var 7) (.var 8))) (.and (.cmp .notN (.var 4) .non) (.or (.not (.call 0 (.cons (.var 4) .nil) [])) (.cmp .lt (.var 4) (.int (0)))))) (.cons (.ret (.bl false)) .nil) .nil) (.cons (.ite (.and (.cmp .ne (.call 6 (.cons (.var 2) (.cons (.var 3) .nil)) []) (.tup .nil)) (.cmp .ne (.var 4) (.int (0)))) (.cons (.ret (.bl false)) .nil) .nil) (.cons (.set 5 false (.comp [9] (.nm 9) (.seq (.call 1 (.cons (.var 0) .nil) [])) (.cons (.cmp .lt (.call 2 (.cons (.var 1) (.cons (.var 9) .nil)) []) (.var 7)) .nil) (.var 9))) (.cons (.ite (.and (.cmp .notN (.var 4) .non) (.cmp .ne (.var 4) (.bi .min (.cons (.comp [9] (.nm 9) (.seq (.var 5)) .nil (.bi .max (.cons (.int (0)) (.cons (.bin .sub (.call 4 (.cons (.var 0) (.cons (.var 1) (.cons (.var 3) (.cons (.var 9) .nil)))) []) (.var 7)) .nil)))) .nil)))) (.cons (.ret (.bl false)) .nil) .nil) (.cons (.set 6 false (.comp [10] (.nm 10) (.seq (.call 5 (.cons (.var 0) (.cons (.var 1) .nil)) [])) (.cons (.cmp .eq (.ix (.var 10) (.int (0))) (.var 3)) .nil) (.var 10))) (.cons (.ret (.or (.cmp .ne (.call 6 (.cons (.var 2) (.cons (.var 3) .nil)) []) (.tup .nil)) (.or (.cmp .ne (.var 6) (.lst .nil)) (.or (.cmp .isN (.var 4) .non) (.cmp .gt (.var 4) (.int (0))))))) .nil))))))))
def m_law_depth_right : MFn := defM [] false 11 4 (tb [m_law_is_whole, m_law_states, m_law_value, m_depth, m_pass_height, m_tie_turns, m_wants]) b_law_depth_right
@[simp] theorem m_law_depth_right_mp : m_law_depth_right.mp = [] := rfl
@[simp] theorem m_law_depth_right_fr : m_law_depth_right.fresh = false := rfl
def b_value_at : MB := (.cons (.expr (.call 1 (.cons (.var 0) (.cons (.var 1) .nil)) [])) (.cons (.expr (.call 0 (.cons (.var 0) (.cons (.var 2) .nil)) [])) (.cons (.ret (.call 2 (.cons (.var 1) (.cons (.var 2) .nil)) [])) .nil)))
def m_value_at : MFn := defM [] false 3 3 (tb [m_need_state, m_need_switches_energy, m_value_by]) b_value_at
@[simp] theorem m_value_at_mp : m_value_at.mp = [] := rfl
@[simp] theorem m_value_at_fr : m_value_at.fresh = false := rfl
def b_valley_of : MB := (.cons (.expr (.call 0 (.cons (.var 0) (.cons (.var 1) (.cons (.var 2) .nil))) [])) (.cons (.set 3 false (.call 1 (.cons (.var 0) (.cons (.var 1) .nil)) [])) (.cons (.ret (.bi .tuple (.cons (.bi .sorted (.cons (.call 2 (.cons (.var 3) (.cons (.var 2) (.cons (.ix (.var 3) (.var 2)) .nil))) []) .nil)) .nil))) .nil)))
def m_valley_of : MFn := defM [] false 4 3 (tb [m_need_energy_state, m_values_by, m_ways_within]) b_valley_of
@[simp] theorem m_valley_of_mp : m_valley_of.mp = [] := rfl
@[simp] theorem m_valley_of_fr : m_valley_of.fresh = false := rfl
def b_next_states : MB := (.cons (.ret (.comp [2] (.nm 2) (.seq (.call 1 (.cons (.var 0) (.cons (.var 1) .nil)) [])) .nil (.call 0 (.cons (.var 1) (.cons (.var 2) .nil)) []))) .nil)
def m_next_states : MFn := defM [] false 3 2 (tb [m_turned_at, m_wants_by]) b_next_states
@[simp] theorem m_next_states_mp : m_next_states.mp = [] := rfl
@[simp] theorem m_next_states_fr : m_next_states.fresh = false := rfl
def b_lines_by : MB := (.cons (.par [2, 3] [true, true] (.cons (.dic1 (.var 1) (.lst (.cons (.var 1) .nil))) (.cons (.lst (.cons (.var 1) .nil)) .nil))) (.cons (.whl (.cmp .ne (.var 3) (.lst .nil)) (.cons (.set 4 false (.pop 3 (.int (0)))) (.cons (.for_ (.nm 5) (.seq (.call 0 (.cons (.var 0) (.cons (.var 4) .nil)) [])) (.cons (.ite (.cmp .notin (.var 5) (.var 2)) (.cons (.put 2 (.var 5) (.lst (.star (.ix (.var 2) (.var 4)) (.cons (.var 5) .nil)))) (.cons (.app 3 (.var 5)) .nil)) .nil) .nil)) .nil))) (.cons (.ret (.var 2)) .nil)))
def m_lines_by : MFn := defM [] false 6 2 (tb [m_next_states]) b_lines_by
@[simp] theorem m_lines_by_mp : m_lines_by.mp = [] := rfl
@[simp] theorem m_lines_by_fr : m_lines_by.fresh = false := rfl
def b_led : MB := (.cons (.expr (.call 1 (.cons (.var 0) (.cons (.var 1) .nil)) [])) (.cons (.ret (.bi .tuple (.cons (.bi .sorted (.cons (.call 0 (.cons (.var 0) (.cons (.var 1) .nil)) []) .nil)) .nil))) .nil))
def m_led : MFn := defM [] false 2 2 (tb [m_lines_by, m_need_net_state]) b_led
@[simp] theorem m_led_mp : m_led.mp = [] := rfl
@[simp] theorem m_led_fr : m_led.fresh = false := rfl
def b_is_rest_by : MB := (.cons (.ret (.cmp .eq (.call 0 (.cons (.var 0) (.cons (.var 1) .nil)) []) (.tup .nil))) .nil)
def m_is_rest_by : MFn := defM [] false 2 2 (tb [m_wants_by]) b_is_rest_by
@[simp] theorem m_is_rest_by_mp : m_is_rest_by.mp = [] := rfl
@[simp] theorem m_is_rest_by_fr : m_is_rest_by.fresh = false := rfl
def b_rests_by : MB := (.cons (.ret (.bi .tuple (.cons (.comp [2] (.nm 2) (.seq (.bi .sorted (.cons (.call 1 (.cons (.var 0) (.cons (.var 1) .nil)) []) .nil))) (.cons (.call 0 (.cons (.var 0) (.cons (.var 2) .nil)) []) .nil) (.var 2)) .nil))) .nil)
def m_rests_by : MFn := defM [] false 3 2 (tb [m_is_rest_by, m_lines_by]) b_rests_by
@[simp] theorem m_rests_by_mp : m_rests_by.mp = [] := rfl
@[simp] theorem m_rests_by_fr : m_rests_by.fresh = false := rfl
def b_rests_led : MB := (.cons (.expr (.call 0 (.cons (.var 0) (.cons (.var 1) .nil)) [])) (.cons (.ret (.call 1 (.cons (.var 0) (.cons (.var 1) .nil)) [])) .nil))
def m_rests_led : MFn := defM [] false 2 2 (tb [m_need_net_state, m_rests_by]) b_rests_led
@[simp] theorem m_rests_led_mp : m_rests_led.mp = [] := rfl
@[simp] theorem m_rests_led_fr : m_rests_led.fresh = false := rfl
def b_need_net_energy : MB := (.cons (.expr (.call 2 (.cons (.var 0) .nil) [.none])) (.cons (.expr (.call 1 (.cons (.prop (.var 0) 1 0) (.cons (.var 1) .nil)) [.none])) .nil))
def m_need_net_energy : MFn := defM [] false 2 2 (tb [m_Net_switches, m_need_energy, m_need_net]) b_need_net_energy
@[simp] theorem m_need_net_energy_mp : m_need_net_energy.mp = [] := rfl
@[simp] theorem m_need_net_energy_fr : m_need_net_energy.fresh = false := rfl
def b_steps_by : MB := (.cons (.ret (.comp2 [1, 2] [2] (.nm 1) (.seq (.call 1 (.cons (.prop (.var 0) 1 0) .nil) [])) .nil (.nm 2) (.seq (.call 2 (.cons (.var 0) (.cons (.var 1) .nil)) [])) .nil (.tup (.cons (.var 1) (.cons (.var 2) .nil))))) .nil)
def m_steps_by : MFn := defM [] false 3 1 (tb [m_Net_switches, m_all_states, m_wants_by]) b_steps_by
@[simp] theorem m_steps_by_mp : m_steps_by.mp = [] := rfl
@[simp] theorem m_steps_by_fr : m_steps_by.fresh = false := rfl
def b_lowers_by : MB := (.cons (.ret (.bi .all (.cons (.comp [2] (.nm 2) (.seq (.call 1 (.cons (.var 0) .nil) [])) .nil (.cmp .lt (.call 0 (.cons (.var 1) (.cons (.var 2) .nil)) []) (.int (0)))) .nil))) .nil)
def m_lowers_by : MFn := defM [] false 3 2 (tb [m_change_by, m_steps_by]) b_lowers_by
@[simp] theorem m_lowers_by_mp : m_lowers_by.mp = [] := rfl
@[simp] theorem m_lowers_by_fr : m_lowers_by.fresh = false := rfl
def b_need_lowering : MB := (.cons (.expr (.call 1 (.cons (.var 0) (.cons (.var 1) .nil)) [])) (.cons (.ite (.not (.call 0 (.cons (.var 0) (.cons (.var 1) .nil)) [])) (.cons .stuck .nil) .nil) .nil))
def m_need_lowering : MFn := defM [] false 2 2 (tb [m_lowers_by, m_need_net_energy]) b_need_lowering
@[simp] theorem m_need_lowering_mp : m_need_lowering.mp = [] := rfl
@[simp] theorem m_need_lowering_fr : m_need_lowering.fresh = false := rfl
def b_lowest_led : MB := (.cons (.expr (.call 1 (.cons (.var 0) (.cons (.var 1) .nil)) [])) (.cons (.expr (.call 2 (.cons (.prop (.var 0) 1 0) (.cons (.var 2) .nil)) [])) (.cons (.ret (.ix (.bi .min (.cons (.comp [3] (.nm 3) (.seq (.call 3 (.cons (.var 0) (.cons (.var 2) .nil)) [])) .nil (.tup (.cons (.call 4 (.cons (.var 1) (.cons (.var 3) .nil)) []) (.cons (.var 3) .nil)))) .nil)) (.int (1)))) .nil)))
def m_lowest_led : MFn := defM [] false 4 3 (tb [m_Net_switches, m_need_lowering, m_need_state, m_rests_by, m_value_by]) b_lowest_led
@[simp] theorem m_lowest_led_mp : m_lowest_led.mp = [] := rfl
@[simp] theorem m_lowest_led_fr : m_lowest_led.fresh = false := rfl
def b_law_turns : MB := (.cons (.set 1 false (.lst .nil)) (.cons (.for_ (.nm 2) (.seq (.call 0 (.cons (.var 0) .nil) [])) (.cons (.set 1 false (.bin .add (.var 1) (.comp [3] (.nm 3) (.rng1 (.var 0)) .nil (.tup (.cons (.var 2) (.cons (.var 3) .nil)))))) .nil)) (.cons (.ret (.var 1)) .nil)))
def m_law_turns : MFn := defM [] false 4 1 (tb [m_law_states]) b_law_turns
@[simp] theorem m_law_turns_mp : m_law_turns.mp = [] := rfl
@[simp] theorem m_law_turns_fr : m_law_turns.fresh = false := rfl
def b_law_turned : MB := (.cons (.ret (.bin .add (.bin .add (.slc (.var 0) .nil (.cons (.var 1) .nil)) (.tup (.cons (.bin .sub (.int (1)) (.ix (.var 0) (.var 1))) .nil))) (.slc (.var 0) (.cons (.bin .add (.var 1) (.int (1))) .nil) .nil))) .nil)
def m_law_turned : MFn := defM [] false 2 2 (tb []) b_law_turned
@[simp] theorem m_law_turned_mp : m_law_turned.mp = [] := rfl
@[simp] theorem m_law_turned_fr : m_law_turned.fresh = false := rfl
def b_law_change : MB := (.cons (.ret (.bin .sub (.call 1 (.cons (.var 0) (.cons (.call 0 (.cons (.ix (.var 1) (.int (0))) (.cons (.ix (.var 1) (.int (1))) .nil)) []) .nil)) []) (.call 1 (.cons (.var 0) (.cons (.ix (.var 1) (.int (0))) .nil)) []))) .nil)
def m_law_change : MFn := defM [] false 2 2 (tb [m_law_turned, m_law_value]) b_law_change
@[simp] theorem m_law_change_mp : m_law_change.mp = [] := rfl
@[simp] theorem m_law_change_fr : m_law_change.fresh = false := rfl
def b_law_down : MB := (.cons (.ret (.comp [2] (.nm 2) (.seq (.call 1 (.cons (.var 0) .nil) [])) (.cons (.cmp .lt (.call 0 (.cons (.var 1) (.cons (.var 2) .nil)) []) (.int (0))) .nil) (.var 2))) .nil)
def m_law_down : MFn := defM [] false 3 2 (tb [m_law_change, m_law_turns]) b_law_down
@[simp] theorem m_law_down_mp : m_law_down.mp = [] := rfl
@[simp] theorem m_law_down_fr : m_law_down.fresh = false := rfl
def b_law_net : MB := (.cons (.set 2 true (.lst .nil)) (.cons (.for_ (.nm 3) (.rng1 (.var 0)) (.cons (.app 2 (.bi .tuple (.cons (.comp [4] (.nm 4) (.seq (.call 1 (.cons (.var 0) .nil) [])) .nil (.ite (.cmp .isin (.tup (.cons (.var 4) (.cons (.var 3) .nil))) (.var 1)) (.bin .sub (.int (1)) (.ix (.var 4) (.var 3))) (.ix (.var 4) (.var 3)))) .nil))) .nil)) (.cons (.ret (.new 1 0 (.cons (.var 2) .nil))) .nil)))
def m_law_net : MFn := defM [] false 5 2 (tb [m_Net_init, m_law_states]) b_law_net
@[simp] theorem m_law_net_mp : m_law_net.mp = [] := rfl
@[simp] theorem m_law_net_fr : m_law_net.fresh = false := rfl
def b_law_some : MB := (.cons (.par [2, 3] [false, false] (.cons (.bin .add (.int (2)) (.call 0 (.cons (.var 0) (.cons (.int (4)) .nil)) [])) (.cons (.cmp .eq (.call 0 (.cons (.var 0) (.cons (.int (2)) .nil)) []) (.int (0))) .nil))) (.cons (.ret (.comp [4] (.nm 4) (.seq (.var 1)) (.cons (.cmp .eq (.cmp .eq (.call 0 (.cons (.var 0) (.cons (.var 2) .nil)) []) (.int (0))) (.var 3)) .nil) (.var 4))) .nil))
def m_law_some : MFn := defM [0] false 5 2 (tb [m_law_draw]) b_law_some
@[simp] theorem m_law_some_mp : m_law_some.mp = [0] := rfl
@[simp] theorem m_law_some_fr : m_law_some.fresh = false := rfl
def b_law_led_right : MB := (.cons (.set 4 false (.call 1 (.cons (.var 1) (.cons (.call 2 (.cons (.var 0) (.cons (.call 0 (.cons (.var 1) (.cons (.var 2) .nil)) []) .nil)) []) .nil)) [])) (.cons (.for_ (.nm 5) (.seq (.call 3 (.cons (.var 1) .nil) [])) (.cons (.set 6 false (.bi .list (.cons (.call 8 (.cons (.var 1) (.cons (.var 2) (.cons (.var 5) .nil))) []) .nil))) (.cons (.ite (.or (.cmp .ne (.comp [8] (.nm 8) (.seq (.call 5 (.cons (.var 4) (.cons (.var 5) .nil)) [])) (.cons (.cmp .notin (.var 8) (.var 6)) .nil) (.var 8)) (.lst .nil)) (.cmp .ne (.comp [8] (.nm 8) (.seq (.call 5 (.cons (.var 3) (.cons (.var 5) .nil)) [])) (.cons (.cmp .notin (.var 8) (.var 6)) .nil) (.var 8)) (.lst .nil))) (.cons (.ret (.bl false)) .nil) .nil) (.cons (.set 7 false (.call 6 (.cons (.var 3) (.cons (.var 2) (.cons (.var 5) .nil))) [])) (.cons (.ite (.or (.cmp .ne (.call 10 (.cons (.var 3) (.cons (.var 7) .nil)) []) (.tup .nil)) (.or (.cmp .notin (.var 7) (.call 7 (.cons (.var 3) (.cons (.var 5) .nil)) [])) (.cmp .gt (.call 9 (.cons (.var 1) (.cons (.var 2) (.cons (.var 7) .nil))) []) (.call 9 (.cons (.var 1) (.cons (.var 2) (.cons (.var 5) .nil))) [])))) (.cons (.ret (.bl false)) .nil) .nil) (.cons (.ite (.cmp .ne (.bi .min (.cons (.comp [8] (.nm 8) (.seq (.call 7 (.cons (.var 3) (.cons (.var 5) .nil)) [])) .nil (.call 4 (.cons (.var 2) (.cons (.var 8) .nil)) [])) .nil)) (.call 4 (.cons (.var 2) (.cons (.var 7) .nil)) [])) (.cons (.ret (.bl false)) .nil) .nil) .nil)))))) (.cons (.ret (.bl true)) .nil)))
def m_law_led_right : MFn := defM [0] false 9 4 (tb [m_law_down, m_law_net, m_law_some, m_law_states, m_law_value, m_led, m_lowest_led, m_rests_led, m_valley_of, m_value_at, m_wants]) b_law_led_right
@[simp] theorem m_law_led_right_mp : m_law_led_right.mp = [0] := rfl
@[simp] theorem m_law_led_right_fr : m_law_led_right.fresh = false := rfl
def b_law_bottoms_right : MB := (.cons (.set 3 false (.bi .list (.cons (.call 2 (.cons (.var 0) (.cons (.var 1) .nil)) []) .nil))) (.cons (.set 4 false (.comp [8] (.nm 8) (.seq (.call 0 (.cons (.var 0) .nil) [])) (.cons (.cmp .eq (.call 4 (.cons (.var 2) (.cons (.var 8) .nil)) []) (.tup .nil)) .nil) (.var 8))) (.cons (.for_ (.nm 5) (.seq (.var 3)) (.cons (.ite (.cmp .ne (.comp [8] (.nm 8) (.seq (.var 5)) (.cons (.or (.cmp .notin (.var 8) (.var 4)) (.cmp .ne (.call 1 (.cons (.var 1) (.cons (.var 8) .nil)) []) (.call 1 (.cons (.var 1) (.cons (.ix (.var 5) (.int (0))) .nil)) []))) .nil) (.var 8)) (.lst .nil)) (.cons (.ret (.bl false)) .nil) .nil) .nil)) (.cons (.ite (.and (.cmp .eq (.bi .list (.cons (.call 3 (.cons (.var 0) (.cons (.var 1) .nil)) []) .nil)) (.lst .nil)) (.cmp .ne (.var 3) (.comp [8] (.nm 8) (.seq (.var 4)) .nil (.tup (.cons (.var 8) .nil))))) (.cons (.ret (.bl false)) .nil) .nil) (.cons (.set 6 false (.bi .min (.cons (.comp [8] (.nm 8) (.seq (.call 0 (.cons (.var 0) .nil) [])) .nil (.call 1 (.cons (.var 1) (.cons (.var 8) .nil)) [])) .nil))) (.cons (.set 7 false (.lst .nil)) (.cons (.for_ (.nm 5) (.seq (.var 3)) (.cons (.set 7 false (.bin .add (.var 7) (.bi .list (.cons (.var 5) .nil)))) .nil)) (.cons (.ret (.cmp .eq (.comp [8] (.nm 8) (.seq (.call 0 (.cons (.var 0) .nil) [])) (.cons (.and (.cmp .eq (.call 1 (.cons (.var 1) (.cons (.var 8) .nil)) []) (.var 6)) (.cmp .ne (.cnt (.var 7) (.var 8)) (.int (1)))) .nil) (.var 8)) (.lst .nil))) .nil))))))))
def m_law_bottoms_right : MFn := defM [] false 9 3 (tb [m_law_states, m_law_value, m_bottoms, m_tie_turns, m_wants]) b_law_bottoms_right
@[simp] theorem m_law_bottoms_right_mp : m_law_bottoms_right.mp = [] := rfl
@[simp] theorem m_law_bottoms_right_fr : m_law_bottoms_right.fresh = false := rfl
def b_law : MB := (.cons (.set 1 true (.call 0 (.cons (.var 0) .nil) [])) (.cons (.for_ (.nm 2) (.rng1 (.bin .add (.int (3)) (.bi .min (.cons (.bi .len (.cons (.var 0) .nil)) (.cons (.int (5)) .nil))))) (.cons (.set 4 false (.bin .add (.int (1)) (.call 3 (.cons (.var 1) (.cons (.ite (.cmp .eq (.var 2) (.int (0))) (.int (4)) (.int (3))) .nil)) []))) (.cons (.set 5 false (.call 4 (.cons (.var 1) (.cons (.var 4) (.cons (.bin .add (.int (1)) (.call 3 (.cons (.var 1) (.cons (.var 4) .nil)) [])) .nil))) [])) (.cons (.set 6 false (.call 10 (.cons (.var 4) (.cons (.var 5) .nil)) [])) (.cons (.for_ (.nm 7) (.seq (.slc (.call 6 (.cons (.var 1) (.cons (.call 7 (.cons (.var 4) .nil) []) .nil)) []) .nil (.cons (.int (8)) .nil))) (.cons (.ite (.not (.call 2 (.cons (.var 4) (.cons (.var 5) (.cons (.var 6) (.cons (.var 7) .nil)))) [])) (.cons (.ret (.bl false)) .nil) .nil) .nil)) (.cons (.ite (.or (.not (.call 5 (.cons (.var 1) (.cons (.var 4) (.cons (.var 5) (.cons (.var 6) .nil)))) [])) (.not (.call 1 (.cons (.var 4) (.cons (.var 5) (.cons (.var 6) .nil))) []))) (.cons (.ret (.bl false)) .nil) .nil) .nil)))))) (.cons (.set 3 false (.tup (.cons (.tup (.cons (.tup (.cons (.int (0)) .nil)) (.cons (.neg (.int (1))) .nil))) (.cons (.tup (.cons (.tup (.cons (.int (1)) .nil)) (.cons (.neg (.int (1))) .nil))) (.cons (.tup (.cons (.tup (.cons (.int (0)) (.cons (.int (1)) .nil))) (.cons (.int (2)) .nil))) .nil))))) (.cons (.ret (.and (.cmp .eq (.bi .list (.cons (.call 8 (.cons (.int (2)) (.cons (.var 3) .nil)) []) .nil)) (.lst (.cons (.tup (.cons (.tup (.cons (.int (0)) (.cons (.int (1)) .nil))) .nil)) (.cons (.tup (.cons (.tup (.cons (.int (1)) (.cons (.int (0)) .nil))) .nil)) .nil)))) (.and (.cmp .isN (.call 9 (.cons (.int (2)) (.cons (.var 3) (.cons (.tup (.cons (.int (0)) (.cons (.int (1)) .nil))) .nil))) []) .non) (.cmp .eq (.call 9 (.cons (.int (2)) (.cons (.var 3) (.cons (.tup (.cons (.int (0)) (.cons (.int (0)) .nil))) .nil))) []) (.int (0)))))) .nil))))
def m_law : MFn := defM [] false 8 1 (tb [m_law_begun, m_law_bottoms_right, m_law_depth_right, m_law_draw, m_law_energy, m_law_led_right, m_law_mixed, m_law_states, m_bottoms, m_depth, m_net_of_energy]) b_law
@[simp] theorem m_law_mp : m_law.mp = [] := rfl
@[simp] theorem m_law_fr : m_law.fresh = false := rfl
end VL

set_option linter.all false
set_option maxRecDepth 100000
set_option maxHeartbeats 1000000
/-! Q1: what the package's defs do: states, nets. -/
namespace VL
open PySem PySem.W PyProof.Rows
theorem r_all_states (n : Nat) (hn : n ≤ 4) : m_all_states.run [.int n] = .ok (eL eS (allSt n), []) := by
  have h1 : (n : Int) ≤ 1000000 := by omega
  have h2 : (-1000000 : Int) ≤ n := by omega
  rw [m_all_states, run_eq rfl]
  simp [b_all_states, lim_eq, h1, h2]
  refine bind_ex (for_inv PyData.int (fun s : Nat × SV => [.sh (.int n), .sh (eL eS (allSt s.1)), s.2, .un, .un]) (rngI n) (fun xs s => s.1 + xs.length = n) (0, .un) (by simp) ?_) ?_
  · intro x xs s hp
    simp at hp
    have hk : (allSt s.1).length ≤ 16 := small_allSt (by omega)
    refine ⟨_, (s.1 + 1, .sh (.int x)), rfl, .inl ?_, ?_⟩
    · simp
      refine bind_of _ (comp2_map (ρ0 := [.sh (.int n), .sh (eL eS (allSt s.1)), .sh (.int x), .un, .un]) eS PyData.int eS (allSt s.1) (fun _ => [0, 1]) (fun s y => s ++ [y]) ?_ rfl rfl rfl 2 ?_ ?_ ?_) ?_
      · simp
      · simp
      · rw [lim_eq]; omega
      · intro u hu
        have hl : u.length = s.1 := (mem_allSt.mp hu).1
        refine ⟨_, rfl, rfl, ?_, _, rfl, rfl, fun y hy => ⟨_, rfl, ?_, rfl⟩⟩
        · simp [lim_eq]
        · have : u.length + 1 ≤ 1000000 := by omega
          simp [lim_eq, eT, this]
      · simp [allSt]
    · simp; omega
  · intro s hp
    simp at hp
    simp [hp]
theorem r_product_at (a s : St) (h : ∀ i ∈ a, 0 ≤ i ∧ i < s.length) (ha : a.length ≤ 16) : m_product_at.run [eS a, eS s] = .ok (.int (prodT a s), []) := by
  rw [m_product_at, run_eq rfl]
  simp [b_product_at]
  refine bind_of _ (comp_map (ρ0 := [.sh (eS a), .sh (eS s), .un]) PyData.int PyData.bool a (fun i => decide (s.getD i.toNat 0 = 1)) (by simp) rfl rfl rfl (by rw [lim_eq]; omega) fun i hi => ⟨_, rfl, ?_, rfl⟩) ?_
  · simp [ixD_tup (h i hi).1 (getD_of (h i hi).1 (h i hi).2)]
  · simp [prodT]
    split <;> simp_all
theorem r_value_by (E : En) (s : St) (h : ∀ q ∈ E, ∀ i ∈ q.1, 0 ≤ i ∧ i < s.length) (hl : ∀ q ∈ E, q.1.length ≤ 4) (hE : E.length ≤ 16) : m_value_by.run [eE E, eS s] = .ok (.int (valT E s), []) := by
  rw [m_value_by, run_eq rfl]
  simp [b_value_by]
  refine bind_of _ (comp_map (ρ0 := [.sh (eE E), .sh (eS s), .un, .un]) eQ PyData.int E (fun q => q.2 * prodT q.1 s) (by simp) rfl rfl rfl (by rw [lim_eq]; omega) fun q hq => ⟨_, rfl, ?_, rfl⟩) ?_
  · have := hl q hq
    simp [r_product_at q.1 s (h q hq) (by omega), prod_small]
  · simp [valT]
theorem r_values_by (n : Nat) (hn : n ≤ 4) (E : En) (hE : EOk n E) : m_values_by.run [.int n, eE E] = .ok (eTb (tblT n (valT E)), []) := by
  rw [m_values_by, run_eq rfl]
  simp [b_values_by]
  refine bind_of _ (dcomp_map (ρ0 := [.sh (.int n), .sh (eE E), .un]) eS eS PyData.int (by decide) (allSt n) id (valT E) (by simpa using allSt_nodup hn) ?_ rfl rfl rfl ?_ fun s hs => ⟨_, rfl, rfl, ?_, rfl⟩) ?_
  · simp [r_all_states n hn]
  · have := small_allSt hn
    rw [lim_eq]; omega
  · have hl := (mem_allSt.mp hs).1
    simp [r_value_by E s (by rw [hl]; exact hE.val.1) hE.val.2.1 hE.val.2.2]
  · simp [fzOk_eD]
theorem r_is_number (n : Int) : m_is_number.run [.int n] = .ok (.bool true, []) := by
  rw [m_is_number, run_eq rfl]
  simp [b_is_number]
theorem r_is_between (n lo hi : Int) (h1 : lo ≤ n) (h2 : n ≤ hi) : m_is_between.run [.int n, .int lo, .int hi] = .ok (.bool true, []) := by
  have h3 : ¬ n < lo := by omega
  have h4 : ¬ hi < n := by omega
  rw [m_is_between, run_eq rfl]
  simp [b_is_between, r_is_number, h1, h2]
theorem all_true {α : Type} (l : List α) : (l.map fun _ => true).all id = true := by simp
theorem r_is_tuple_of (s : St) (lo hi : Int) (h : ∀ x ∈ s, lo ≤ x ∧ x ≤ hi) (hl : s.length ≤ 16) : m_is_tuple_of.run [eS s, .int s.length, .int lo, .int hi] = .ok (.bool true, []) := by
  rw [m_is_tuple_of, run_eq rfl]
  simp [b_is_tuple_of]
  refine bind_of _ (comp_map (ρ0 := [.sh (eS s), .sh (.int s.length), .sh (.int lo), .sh (.int hi), .un]) PyData.int PyData.bool s (fun _ => true) (by simp) rfl rfl rfl (by rw [lim_eq]; omega) fun x hx => ⟨_, rfl, ?_, rfl⟩) ?_
  · simp [r_is_between x lo hi (h x hx).1 (h x hx).2]
  · simp
theorem r_is_state {n : Nat} {s : St} (hn : n ≤ 4) (hs : s ∈ allSt n) : m_is_state.run [.int n, eS s] = .ok (.bool true, []) := by
  obtain ⟨h1, h2⟩ := mem_allSt.mp hs
  have := r_is_tuple_of s 0 1 (fun x hx => by rcases h2 x hx with h | h <;> subst h <;> decide) (by omega)
  rw [h1] at this
  rw [m_is_state, run_eq rfl]
  simp [b_is_state, this]
theorem r_need_state {n : Nat} {s : St} (hn : n ≤ 4) (hs : s ∈ allSt n) : m_need_state.run [.int n, eS s] = .ok (.none, []) := by
  rw [m_need_state, run_eq rfl]
  simp [b_need_state, r_is_state hn hs]
theorem r_need_many {n : Nat} (h1 : 1 ≤ n) (hn : n ≤ 4) : m_need_many.run [.int n] = .ok (.none, []) := by
  rw [m_need_many, run_eq rfl]
  simp [b_need_many, r_is_between n 1 4 (by omega) (by omega)]
theorem r_asked_mark (a : St) : m_asked_mark.run [eS a] = .ok (eP PyData.int eS ((a.length : Int), a), []) := by
  rw [m_asked_mark, run_eq rfl]
  simp [b_asked_mark, lim_eq]
  rfl
theorem r_is_rising (a : St) (h : ∀ q ∈ a.zip (a.drop 1), q.1 < q.2) (hl : a.length ≤ 16) : m_is_rising.run [eS a] = .ok (.bool true, []) := by
  rw [m_is_rising, run_eq rfl]
  simp [b_is_rising, lim_eq]
  refine bind_of _ (comp_map (ρ0 := [.sh (eS a), .un, .un]) (eP PyData.int PyData.int) PyData.bool (a.zip (a.drop 1)) (fun _ => true) ?_ rfl rfl rfl ?_ fun x hx => ⟨_, rfl, ?_, rfl⟩) ?_
  · simp [lim_eq, cut_from]
  · rw [lim_eq, List.length_zip]; omega
  · simp [h x hx]
  · simp
theorem r_is_asked {n : Nat} {a : St} (h : AskOk n a) : m_is_asked.run [.int n, eS a] = .ok (.bool true, []) := by
  obtain ⟨h1, h2, h3⟩ := h
  rw [m_is_asked, run_eq rfl]
  simp [b_is_asked]
  refine bind_of _ (comp_map (ρ0 := [.sh (.int n), .sh (eS a), .un]) PyData.int PyData.bool a (fun _ => true) (by simp) rfl rfl rfl (by rw [lim_eq]; omega) fun x hx => ⟨_, rfl, ?_, rfl⟩) ?_
  · have := h2 x hx
    simp [r_is_between x 0 (n - 1) (by omega) (by omega)]
  · simp [r_is_rising a h3 (by omega)]
theorem r_is_term {n : Nat} {q : St × Int} (h : TermOk n q) : m_is_term.run [.int n, eQ q] = .ok (.bool true, []) := by
  obtain ⟨h1, h2, h3, h4⟩ := h
  have h5 : (if q.2 < 0 then -q.2 else q.2) < 1000000000000000000000000000000000000000000000000000000000000 := by
    have : (10 : Nat) ^ 60 = 1000000000000000000000000000000000000000000000000000000000000 := by decide
    split <;> omega
  rw [m_is_term, run_eq rfl]
  simp [b_is_term, r_is_asked h1, r_is_number, eqD_tup0 (e := PyData.int) (by decide), h2, h3, h5, lim_eq]
theorem r_is_energy_by {n : Nat} {E : En} (h : EOk n E) : m_is_energy_by.run [.int n, eE E] = .ok (.bool true, []) := by
  obtain ⟨h1, h2, h3⟩ := h
  rw [m_is_energy_by, run_eq rfl]
  simp [b_is_energy_by]
  refine bind_of _ (comp_map (ρ0 := [.sh (.int n), .sh (eE E), .un, .un, .un, .un]) eQ PyData.bool E (fun _ => true) (by simp) rfl rfl rfl (by rw [lim_eq]; omega) fun q hq => ⟨_, rfl, ?_, rfl⟩) ?_
  · simp [r_is_term (h2 q hq)]
  · simp
    refine bind_of _ (comp_map (ρ0 := [.sh (.int n), .sh (eE E), .un, .un, .un, .un]) eQ (eP PyData.int eS) E (fun q => ((q.1.length : Int), q.1)) (by simp) rfl rfl rfl (by rw [lim_eq]; omega) fun q hq => ⟨_, rfl, ?_, rfl⟩) ?_
    · simp [r_asked_mark]
    · simp [lim_eq]
      refine bind_of _ (comp_map (ρ0 := [.sh (.int n), .sh (eE E), .sh (eL (eP PyData.int eS) (marks E)), .un, .un, .un]) (eP (eP PyData.int eS) (eP PyData.int eS)) PyData.bool ((marks E).zip ((marks E).drop 1)) (fun _ => true) ?_ rfl rfl rfl ?_ fun q hq => ⟨_, rfl, ?_, rfl⟩) ?_
      · simp [lim_eq, cut_from, marks]
      · rw [lim_eq, List.length_zip]
        simp [marks]; omega
      · simp [ltD_enc (e := eP PyData.int eS) (by decide), h3 q hq]
      · simp
theorem r_need_energy {n : Nat} {E : En} (h : EOk n E) (d : D) : m_need_energy.run [.int n, eE E, d] = .ok (.none, []) := by
  rw [m_need_energy, run_eq rfl]
  simp [b_need_energy, r_is_energy_by h]
theorem r_need_switches_energy {n : Nat} {E : En} (h1 : 1 ≤ n) (hn : n ≤ 4) (h : EOk n E) : m_need_switches_energy.run [.int n, eE E] = .ok (.none, []) := by
  rw [m_need_switches_energy, run_eq rfl]
  simp [b_need_switches_energy, r_need_energy h, r_need_many h1 hn]
theorem r_need_energy_state {n : Nat} {E : En} {s : St} (h1 : 1 ≤ n) (hn : n ≤ 4) (h : EOk n E) (hs : s ∈ allSt n) : m_need_energy_state.run [.int n, eE E, eS s] = .ok (.none, []) := by
  rw [m_need_energy_state, run_eq rfl]
  simp [b_need_energy_state, r_need_switches_energy h1 hn h, r_need_state hn hs]
theorem r_turned_at {s : St} {i : Int} (h0 : 0 ≤ i) (hi : i < s.length) (hl : s.length ≤ 16) : m_turned_at.run [eS s, .int i] = .ok (eS (turn s i), []) := by
  have h2 : i.natAbs ≤ 1000000 := by omega
  have h3 : (i + 1).natAbs ≤ 1000000 := by omega
  have h4 : (i + 1).toNat = i.toNat + 1 := by omega
  rw [m_turned_at, run_eq rfl]
  simp [b_turned_at, h2, h3, lim_eq, cut_to h0, cut_from (show 0 ≤ i + 1 by omega), ixD_tup h0 (getD_of h0 hi)]
  have h5 : (min i.toNat s.length + (s.length - (i.toNat + 1) + 1)) ≤ 1000000 := by omega
  simp [h5, h4]
  simp [turn, eT]
theorem r_states_beside {s : St} (hl : s.length ≤ 16) : m_states_beside.run [eS s] = .ok (eL eS (nbs s), []) := by
  have h1 : (s.length : Int) ≤ 1000000 := by omega
  have h2 : (-1000000 : Int) ≤ s.length := by omega
  rw [m_states_beside, run_eq rfl]
  simp [b_states_beside]
  refine bind_of _ (comp_map (ρ0 := [.sh (eS s), .un]) PyData.int eS (rngI s.length) (turn s) ?_ rfl rfl rfl ?_ fun i hi => ⟨_, rfl, ?_, rfl⟩) ?_
  · simp [lim_eq, h1, h2]
  · rw [lim_eq]; simp; omega
  · obtain ⟨g1, g2⟩ := mem_rngI.mp hi
    simp [r_turned_at g1 g2 hl]
  · simp [nbs]
end VL

set_option linter.all false
set_option maxRecDepth 100000
set_option maxHeartbeats 1000000
/-! Q2: what the package's defs do: passes, valleys. -/
namespace VL
open PySem PySem.W PyProof.Rows
instance : TupF eS := ⟨fun a => ⟨_, rfl⟩⟩
theorem ixT {n : Nat} {V : St → Int} {s : St} (hs : s ∈ allSt n) : ixD (eTb (tblT n V)) (eS s) = some (.int (V s)) := by
  rw [ixD_dict (by decide), alook_tbl hs]
  rfl
theorem ways_ex {n : Nat} (hn : n ≤ 4) {V : St → Int} {a : St} (ha : a ∈ allSt n) (m : Int) : ∃ w : Ways, m_ways_within.run [eTb (tblT n V), eS a, .int m] = .ok (eD eS eO w, []) ∧ (keys w).Nodup ∧ ∀ s, s ∈ keys w ↔ InW V m a s := by
  by_cases hv : m < V a
  · refine ⟨[], ?_, by simp [keys], fun s => ⟨fun h => (nomatch h), fun h => by have := h.1; omega⟩⟩
    rw [m_ways_within, run_eq rfl]
    simp [b_ways_within, ixT ha, hv]
    rfl
  · have h0 : InvW n V m a [(a, none)] 0 := ⟨by simp [keys], Nat.zero_le _, by simp [keys], fun s hs => by simp [keys] at hs; subst hs; exact ⟨by omega, .refl⟩, fun i p hi => by omega⟩
    suffices h : ∃ w : Ways, m_ways_within.run [eTb (tblT n V), eS a, .int m] = .ok (eD eS eO w, []) ∧ (keys w).Nodup ∧ ∃ k, InvW n V m a w k ∧ (keys w).length ≤ k by
      obtain ⟨w, h1, h2, k, h3, h4⟩ := h
      exact ⟨w, h1, h2, h3.fin h4⟩
    have key := whl_inv (c := fTest (ev (tb [m_states_beside]) (.cmp .lt (.var 5) (.bi .len (.cons (.var 4) .nil))))) (fb := exB (tb [m_states_beside]) (.cons (.for_ (.nm 6) (.seq (.call 0 (.cons (.ix (.var 4) (.var 5)) .nil) [])) (.cons (.ite (.and (.cmp .notin (.var 6) (.var 3)) (.cmp .le (.ix (.var 0) (.var 6)) (.var 2))) (.cons (.put 3 (.var 6) (.ix (.var 4) (.var 5))) (.cons (.app 4 (.var 6)) .nil)) .nil) .nil)) (.cons (.aug .add 5 (.int (1))) .nil)))
      (fun s : Ways × Nat × SV => [.sh (eTb (tblT n V)), .sh (eS a), .sh (.int m), .ow (eD eS eO s.1), .ow (eL eS (keys s.1)), .sh (.int s.2.1), s.2.2]) (fun s => InvW n V m a s.1 s.2.1) (fun s => 16 - s.2.1) (fun s => decide (s.2.1 < (keys s.1).length)) ?_ ?_ fuel ([(a, none)], 0, .un) h0 (by have := fuel_pos; omega)
    · obtain ⟨⟨w, k, v⟩, h1, h2, h3⟩ := key
      refine ⟨w, ?_, h1.nd, k, h1, by simpa using h2⟩
      rw [m_ways_within, run_eq rfl]
      have hd : dic1 (eS a) .none = some (.fr (eD eS eO [(a, none)])) := by
        unfold dic1
        rw [keyT_enc (by decide)]
        rfl
      simp [b_ways_within, ixT ha, hv, lim_eq, hd]
      refine bind_of _ h3 ?_
      simp [fzOk_eD]
    · intro s hs
      simp
    · intro s hs hc
      obtain ⟨w, k, v⟩ := s
      simp at hc
      have hs : InvW n V m a w k := hs
      obtain ⟨p, hp⟩ : ∃ p, (keys w)[k]? = some p := ⟨_, List.getElem?_eq_getElem (by simpa [keys] using hc)⟩
      have hpn : p ∈ allSt n := (hs.inn p (List.mem_of_getElem? hp)).st ha
      have hpl : p.length ≤ 16 := by have := (mem_allSt.mp hpn).1; omega
      have hks : ∀ s ∈ keys w, s ∈ allSt n := fun s h => (hs.inn s h).st ha
      have hk16 : (keys w).length ≤ 16 := lot_small hn hs.nd hks
      have hix : ixD (eL eS (keys w)) (.int k) = some (eS p) := ixD_lst (by omega) (by simpa using hp)
      refine ⟨((nbs p).foldl (stepW V m p) w, k + 1, ((nbs p).foldl (fun (s : Ways × SV) x => (stepW V m p s.1 x, .sh (eS x))) (w, v)).2), ?_, hs.step hp, by simp [keys] at hk16; show 16 - (k + 1) < 16 - k; omega⟩
      simp [hix, r_states_beside hpl]
      have loop := for_fold (t := .nm 6) (fb := (sIf (fTest (fAnd (fBin (fVar 6) (fVar 3) (cmpR COp.notin)) (fBin (fBin (fVar 0) (fVar 6) ixR) (fVar 2) (cmpR COp.le)))) (sSeq (sPut 3 (fVar 6) (fBin (fVar 4) (fVar 5) ixR)) (sApp 4 (fVar 6) appD)) sNext)) eS
        (fun s : Ways × SV => [.sh (eTb (tblT n V)), .sh (eS a), .sh (.int m), .ow (eD eS eO s.1), .ow (eL eS (keys s.1)), .sh (.int k), s.2]) (fun s x => (stepW V m p s.1 x, .sh (eS x))) (nbs p)
        (fun s => (keys s.1).Nodup ∧ (∀ x ∈ keys s.1, x ∈ allSt n) ∧ (keys s.1)[k]? = some p) (w, v) ⟨hs.nd, hks, hp⟩ ?_
      · refine bind_of _ loop.2 ?_
        simp [foldl_fst (stepW V m p) (fun _ x => SV.sh (eS x))]
      · intro s x hx ⟨g1, g2, g3⟩
        have hxn : x ∈ allSt n := mem_nbs hpn hx
        have hix' : ixD (eL eS (keys s.1)) (.int k) = some (eS p) := ixD_lst (by omega) (by simpa using g3)
        have h16 : (keys s.1).length ≤ 16 := lot_small hn g1 g2
        obtain ⟨f1, ⟨r, f2⟩, f3, f4⟩ := foldW (V := V) (m := m) (p := p) [x] s.1 g1
        simp only [List.foldl_cons, List.foldl_nil] at f1 f2 f3 f4
        refine ⟨_, rfl, ?_, f1, fun y hy => ?_, ?_⟩
        · by_cases q1 : x ∈ keys s.1
          · simp [inD_dict (ek := eS) (by decide), stepW, q1, keys]
          · have q1' : ∀ z, (x, z) ∉ s.1 := fun z hz => q1 (List.mem_map.mpr ⟨_, hz, rfl⟩)
            by_cases q2 : m < V x
            · have q3 : ¬ V x ≤ m := by omega
              simp [inD_dict (ek := eS) (by decide), stepW, q1, q1', keys, ixT hxn, q2, q3]
            · have q3 : V x ≤ m := by omega
              have hput : putD (eD eS eO s.1) (eS x) (eS p) = some (eD eS eO (s.1 ++ [(x, some p)])) := by
                have := putD_dict (ek := eS) (ev := eO) (by decide) s.1 x (some p) (by rw [lim_eq]; simp [keys] at h16; omega)
                rw [aput_new q1] at this
                exact this
              have happ : appD (eL eS (keys s.1)) (eS x) = some (eL eS (keys s.1 ++ [x])) := appD_eL (by rw [lim_eq]; omega)
              have hk : keys (s.1 ++ [(x, some p)]) = keys s.1 ++ [x] := by simp [keys]
              simp [inD_dict (ek := eS) (by decide), stepW, q1', ixT hxn, q2, q3, hput, happ, hix', hk]
        · rcases f4 y hy with z | z
          · exact g2 y z
          · simp at z; rw [z.1]; exact hxn
        · rw [f2, List.getElem?_append_left (List.getElem?_eq_some_iff.mp g3).1]
          exact g3
end VL

set_option linter.all false
set_option maxRecDepth 100000
set_option maxHeartbeats 1000000
/-! Q3: heights, depths, valleys, levels, bottoms. -/
namespace VL
open PySem PySem.W PyProof.Rows
/-- the height of the pass -/
noncomputable def hgt (n : Nat) (V : St → Int) (a b : St) : Int := runT PyData.int (m_height_by.run [eTb (tblT n V), eS a, eS b])
theorem tbl_keys {n : Nat} {V : St → Int} : (tblT n V).map (·.1) = allSt n := by
  rw [List.map_map]
  exact List.map_id _
theorem tbl_vals {n : Nat} {V : St → Int} : (tblT n V).map (·.2) = (allSt n).map V := by simp [tblT]
open Classical in
theorem r_height_by {n : Nat} (hn : n ≤ 4) {V : St → Int} {a b : St} (ha : a ∈ allSt n) (hb : b ∈ allSt n) : m_height_by.run [eTb (tblT n V), eS a, eS b] = .ok (.int (hgt n V a b), []) ∧ InW V (hgt n V a b) a b ∧ ∀ s ∈ allSt n, InW V (V s) a b → hgt n V a b ≤ V s := by
  suffices h : ∃ h, m_height_by.run [eTb (tblT n V), eS a, eS b] = .ok (.int h, []) ∧ InW V h a b ∧ ∀ s ∈ allSt n, InW V (V s) a b → h ≤ V s by
    obtain ⟨h, h1, h2, h3⟩ := h
    have e : hgt n V a b = h := runT_eq h1
    rw [e]
    exact ⟨h1, h2, h3⟩
  have hlen : ((allSt n).map V).length ≤ lim := by
    have := small_allSt hn
    rw [List.length_map, lim_eq]; omega
  have hs : bivR .sorted (eTb (tblT n V)) = some (.fr (eL PyData.int (sortT ltI ((allSt n).map V)))) := by
    have := sortedV_eD (ek := eS) (ev := PyData.int) (l := tblT n V) (by rw [tbl_vals]; exact sorted_ints _ hlen)
    rw [tbl_vals] at this
    exact this
  obtain ⟨x, hx, h1⟩ := for_find (t := .nm 3) (fb := exB (tb [m_ways_within]) (.cons (.ite (.cmp .isin (.var 2) (.call 0 (.cons (.var 0) (.cons (.var 1) (.cons (.var 3) .nil))) [])) (.cons (.ret (.var 3)) .nil) .nil) .nil)) PyData.int (fun m => decide (InW V m a b)) (fun m => .sh (.int m))
    (fun m => [.sh (eTb (tblT n V)), .sh (eS a), .sh (eS b), .sh (.int m)]) (fun o => [.sh (eTb (tblT n V)), .sh (eS a), .sh (eS b), match o with | none => .un | some m => .sh (.int m)]) (sortT ltI ((allSt n).map V)) none (fun m hm o => by
      obtain ⟨w, h1, h2, h3⟩ := ways_ex hn (V := V) ha m
      have h4 : inD (eS b) (eD eS eO w) = some (decide (InW V m a b)) := by
        rw [inD_dict (by decide)]
        congr 1
        exact decide_eq_decide.mpr (h3 b)
      refine ⟨_, rfl, ?_⟩
      simp [h1, h4, fzOk_eD]
      by_cases q : InW V m a b <;> simp [q]) (by
      obtain ⟨s, h1, h2⟩ := max_of V (allSt n) allSt_ne
      exact ⟨V s, mem_sortT.mpr (List.mem_map.mpr ⟨s, h1, rfl⟩), by simpa using all_led ha hb h2⟩)
  refine ⟨x, ?_, by simpa using List.find?_some hx, fun s hs hw => ?_⟩
  · rw [m_height_by, run_eq rfl]
    simp [b_height_by, hs]
    refine bind_of _ h1 ?_
    simp
  · have := find_least (sortT_pairwise (lt := ltI) _) hx (V s) (mem_sortT.mpr (List.mem_map.mpr ⟨s, hs, rfl⟩)) (by simpa using hw)
    simp [ltI] at this
    omega
theorem items_tbl {n : Nat} {V : St → Int} : itemsOf (eTb (tblT n V)) = some ((allSt n).map eS) := by
  rw [itemsOf_dict, tbl_keys]
theorem fz_tbl {n : Nat} {V : St → Int} : fzOk (eTb (tblT n V)) = true := fzOk_eD
/-- a depth, or none -/
def eI : Option Int → D
  | none => .none
  | some i => .int i
/-- the states below -/
def lowT (n : Nat) (V : St → Int) (s : St) : List St := (allSt n).filter fun o => decide (V o < V s)
theorem mem_lowT {n : Nat} {V : St → Int} {s o : St} : o ∈ lowT n V s ↔ o ∈ allSt n ∧ V o < V s := by
  unfold lowT
  rw [List.mem_filter]
  simp
noncomputable def dptT (n : Nat) (V : St → Int) (s : St) : Option Int := match (lowT n V s).map (hgt n V s) with
  | [] => none
  | h :: hs => some (minT ltI h hs - V s)
theorem r_depth_by {n : Nat} (hn : n ≤ 4) {V : St → Int} {s : St} (hs : s ∈ allSt n) : m_depth_by.run [eTb (tblT n V), eS s] = .ok (eI (dptT n V s), []) := by
  have h16 := small_allSt hn
  rw [m_depth_by, run_eq rfl]
  simp [b_depth_by]
  refine bind_of _ (comp_enc (ρ0 := [.sh (eTb (tblT n V)), .sh (eS s), .un, .un]) eS eS (allSt n) (fun o => decide (V o < V s)) id ?_ rfl rfl rfl (by rw [lim_eq]; omega) fun o ho => ⟨_, rfl, ?_, fun _ => rfl, rfl⟩) ?_
  · simp [items_tbl]
  · simp [ixT ho, ixT hs]
  · have e : (allSt n).filter (fun o => decide (V o < V s)) = lowT n V s := rfl
    rw [List.map_id, e]
    have hlen : (lowT n V s).length ≤ 16 := Nat.le_trans (List.length_filter_le _ _) h16
    simp [lim_eq, eqD_lst0 (e := eS) (by decide)]
    by_cases q : lowT n V s = []
    · simp [q, dptT, eI]
    · simp [q]
      refine bind_of _ (comp_map (ρ0 := [.sh (eTb (tblT n V)), .sh (eS s), .sh (eL eS (lowT n V s)), .un]) eS PyData.int (lowT n V s) (hgt n V s) ?_ rfl rfl rfl (by rw [lim_eq]; omega) fun o ho => ⟨_, rfl, ?_, rfl⟩) ?_
      · simp
      · simp [(r_height_by hn hs (mem_lowT.mp ho).1).1]
      · cases z : lowT n V s with
        | nil => exact absurd z q
        | cons o os =>
          have := minB_enc (e := PyData.int) (by decide) (hgt n V s o) (os.map (hgt n V s))
          simp [this, ixT hs, dptT, z, eI]
theorem r_depth {n : Nat} (h1 : 1 ≤ n) (hn : n ≤ 4) {E : En} (hE : EOk n E) {s : St} (hs : s ∈ allSt n) : m_depth.run [.int n, eE E, eS s] = .ok (eI (dptT n (valT E) s), []) := by
  rw [m_depth, run_eq rfl]
  simp [b_depth, r_need_energy_state h1 hn hE hs, r_values_by n hn E hE, r_depth_by hn hs]
theorem r_need_states {n : Nat} (h1 : 1 ≤ n) (hn : n ≤ 4) {E : En} (hE : EOk n E) {a b : St} (ha : a ∈ allSt n) (hb : b ∈ allSt n) (hab : a ≠ b) : m_need_states.run [.int n, eE E, eS a, eS b] = .ok (.none, []) := by
  rw [m_need_states, run_eq rfl]
  simp [b_need_states, r_need_switches_energy h1 hn hE, r_need_state hn ha, r_need_state hn hb, eqD_tup (e := PyData.int) (by decide), hab]
theorem r_pass_height {n : Nat} (h1 : 1 ≤ n) (hn : n ≤ 4) {E : En} (hE : EOk n E) {a b : St} (ha : a ∈ allSt n) (hb : b ∈ allSt n) (hab : a ≠ b) : m_pass_height.run [.int n, eE E, eS a, eS b] = .ok (.int (hgt n (valT E) a b), []) := by
  rw [m_pass_height, run_eq rfl]
  simp [b_pass_height, r_need_states h1 hn hE ha hb hab, r_values_by n hn E hE, (r_height_by hn ha hb).1]
theorem st_ne {n : Nat} (h1 : 1 ≤ n) {s : St} (hs : s ∈ allSt n) : s ≠ [] := by
  intro e
  subst e
  have := (mem_allSt.mp hs).1
  simp at this
  omega
/-- the valley of a state -/
theorem r_valley_of {n : Nat} (h1 : 1 ≤ n) (hn : n ≤ 4) {E : En} (hE : EOk n E) {s : St} (hs : s ∈ allSt n) : ∃ L : List St, m_valley_of.run [.int n, eE E, eS s] = .ok (eT eS L, []) ∧ ∀ x, x ∈ L ↔ InW (valT E) (valT E s) s x := by
  obtain ⟨w, g1, g2, g3⟩ := ways_ex hn (V := valT E) hs (valT E s)
  have hks : ∀ x ∈ keys w, x ∈ allSt n := fun x hx => ((g3 x).mp hx).st hs
  have h16 := lot_small hn g2 hks
  have hso := sortedB_eD (ek := eS) (ev := eO) (l := w) (sorted_tups (e := PyData.int) (by decide) (keys w) (by rw [lim_eq]; omega) fun x hx => st_ne h1 (hks x hx))
  refine ⟨sortT (lexB ltI) (keys w), ?_, fun x => mem_sortT.trans (g3 x)⟩
  rw [m_valley_of, run_eq rfl]
  simp [b_valley_of, r_need_energy_state h1 hn hE hs, r_values_by n hn E hE, ixT hs, g1, hso, fzOk_eD]
/-! ### levels -/
def RE (V : St → Int) (m : Int) (b c : St) : Prop := c ∈ nbs b ∧ V c = m
def InE (V : St → Int) (a s : St) : Prop := Rch (RE V (V a)) a s
theorem InE.val {V : St → Int} {a s : St} (h : InE V a s) : V s = V a := h.mem (P := fun s => V s = V a) rfl fun _ _ _ r => r.2
theorem InE.st {n : Nat} {V : St → Int} {a s : St} (ha : a ∈ allSt n) (h : InE V a s) : s ∈ allSt n := h.mem ha fun _ _ hb r => mem_nbs hb r.1
theorem InE.symm {n : Nat} (hn : n ≤ 4) {V : St → Int} {a s : St} (ha : a ∈ allSt n) (h : InE V a s) : InE V s a := by
  have key : InE V s a ∧ s ∈ allSt n ∧ V s = V a := by
    refine h.mem (P := fun s => InE V s a ∧ s ∈ allSt n ∧ V s = V a) ⟨.refl, ha, rfl⟩ fun b c ⟨h1, h2, h3⟩ r => ?_
    refine ⟨?_, mem_nbs h2 r.1, r.2⟩
    have e : V c = V b := by rw [r.2, h3]
    have first : Rch (RE V (V c)) c b := .step .refl ⟨nbs_back hn b h2 c r.1, e.symm⟩
    refine first.trans ?_
    unfold InE at h1
    rw [e]
    exact h1
  exact key.1
theorem InE.trans {V : St → Int} {a b c : St} (h : InE V a b) (k : InE V b c) : InE V a c := by
  have e := h.val
  unfold InE at h k ⊢
  rw [e] at k
  exact Rch.trans h k
structure InvE (n : Nat) (V : St → Int) (a : St) (L : List St) (k : Nat) : Prop where
  nd : L.Nodup
  le : k ≤ L.length
  beg : a ∈ L
  inn : ∀ s ∈ L, InE V a s
  cl : ∀ i p, i < k → L[i]? = some p → ∀ x ∈ nbs p, V x = V a → x ∈ L
theorem InvE.fin {n : Nat} {V : St → Int} {a : St} {L : List St} {k : Nat} (h : InvE n V a L k) (hk : L.length ≤ k) (s : St) : s ∈ L ↔ InE V a s := by
  refine ⟨h.inn s, fun z => z.mem h.beg fun b c hb r => ?_⟩
  obtain ⟨i, hi, e⟩ := List.getElem_of_mem hb
  exact h.cl i b (by omega) (by rw [List.getElem?_eq_getElem hi, e]) c r.1 r.2
def moreE (V : St → Int) (a p : St) (L : List St) : List St := ((nbs p).filter fun x => decide (V x = V a)).filter fun x => decide (x ∉ L)
theorem InvE.step {n : Nat} (hn : n ≤ 4) {V : St → Int} {a : St} (ha : a ∈ allSt n) {L : List St} {k : Nat} {p : St} (h : InvE n V a L k) (hp : L[k]? = some p) : InvE n V a (L ++ moreE V a p L) (k + 1) := by
  have hk := (List.getElem?_eq_some_iff.mp hp).1
  have hpi := h.inn p (List.mem_of_getElem? hp)
  have mm : ∀ x, x ∈ moreE V a p L ↔ (x ∈ nbs p ∧ V x = V a) ∧ x ∉ L := fun x => by
    unfold moreE
    rw [List.mem_filter, List.mem_filter]
    simp
  refine ⟨?_, by rw [List.length_append]; omega, List.mem_append.mpr (.inl h.beg), fun s hs => ?_, fun i q hi hq x hx hv => ?_⟩
  · rw [List.nodup_append]
    refine ⟨h.nd, ((nbs_nodup hn p (hpi.st ha)).filter _).filter _, fun x hx y hy e => ?_⟩
    subst e
    exact ((mm x).mp hy).2 hx
  · rcases List.mem_append.mp hs with z | z
    · exact h.inn s z
    · have := (mm s).mp z
      exact .step hpi ⟨this.1.1, this.1.2⟩
  · have hq' : L[i]? = some q := by
      rw [List.getElem?_append_left (by omega)] at hq
      exact hq
    by_cases z : i = k
    · subst z
      rw [hp] at hq'
      cases hq'
      by_cases y : x ∈ L
      · exact List.mem_append.mpr (.inl y)
      · exact List.mem_append.mpr (.inr ((mm x).mpr ⟨⟨hx, hv⟩, y⟩))
    · exact List.mem_append.mpr (.inl (h.cl i q (by omega) hq' x hx hv))
theorem level_ex {n : Nat} (h1 : 1 ≤ n) (hn : n ≤ 4) {V : St → Int} {a : St} (ha : a ∈ allSt n) : ∃ L : List St, m_level_of.run [eTb (tblT n V), eS a] = .ok (eT eS (sortT (lexB ltI) L), []) ∧ L.Nodup ∧ ∀ s, s ∈ L ↔ InE V a s := by
  have h0 : InvE n V a [a] 0 := ⟨by simp, Nat.zero_le _, by simp, fun s hs => by simp at hs; subst hs; exact .refl, fun i p hi => by omega⟩
  have key := whl_inv (c := fTest (ev (tb [m_states_beside]) (.cmp .lt (.var 3) (.bi .len (.cons (.var 2) .nil))))) (fb := exB (tb [m_states_beside]) (.cons (.set 4 false (.comp [5] (.nm 5) (.seq (.call 0 (.cons (.ix (.var 2) (.var 3)) .nil) [])) (.cons (.cmp .eq (.ix (.var 0) (.var 5)) (.ix (.var 0) (.var 1))) .nil) (.var 5))) (.cons (.ext 2 (.comp [5] (.nm 5) (.seq (.var 4)) (.cons (.cmp .notin (.var 5) (.var 2)) .nil) (.var 5))) (.cons (.aug .add 3 (.int (1))) .nil))))
    (fun s : List St × Nat × SV => [.sh (eTb (tblT n V)), .sh (eS a), .ow (eL eS s.1), .sh (.int s.2.1), s.2.2, .un]) (fun s => InvE n V a s.1 s.2.1 ∧ ∀ d, s.2.2 ≠ .ow d) (fun s => 16 - s.2.1) (fun s => decide (s.2.1 < s.1.length)) ?_ ?_ fuel ([a], 0, .un) ⟨h0, fun d => by simp⟩ (by have := fuel_pos; omega)
  · obtain ⟨⟨L, k, v⟩, ⟨g1, gv⟩, g2, g3⟩ := key
    have g1 : InvE n V a L k := g1
    have hks : ∀ x ∈ L, x ∈ allSt n := fun x hx => (g1.inn x hx).st ha
    have h16 := lot_small hn g1.nd hks
    have hso := sortedB_eL (e := eS) (l := L) (sorted_tups (e := PyData.int) (by decide) L (by rw [lim_eq]; omega) fun x hx => st_ne h1 (hks x hx))
    refine ⟨L, ?_, g1.nd, g1.fin (by simpa using g2)⟩
    rw [m_level_of, run_eq rfl]
    simp [b_level_of, lim_eq]
    refine bind_of _ g3 ?_
    simp [hso]
  · intro s hs
    simp
  · intro s hs hc
    obtain ⟨L, k, v⟩ := s
    simp at hc
    have hv : ∀ d, v ≠ .ow d := hs.2
    have hs : InvE n V a L k := hs.1
    obtain ⟨p, hp⟩ : ∃ p, L[k]? = some p := ⟨_, List.getElem?_eq_getElem hc⟩
    have hpn : p ∈ allSt n := (hs.inn p (List.mem_of_getElem? hp)).st ha
    have hpl : p.length ≤ 16 := by have := (mem_allSt.mp hpn).1; omega
    have hks : ∀ s ∈ L, s ∈ allSt n := fun s h => (hs.inn s h).st ha
    have h16 : L.length ≤ 16 := lot_small hn hs.nd hks
    have hix : ixD (eL eS L) (.int k) = some (eS p) := ixD_lst (by omega) (by simpa using hp)
    have hnb : (nbs p).length ≤ 16 := by simp [nbs]; omega
    refine ⟨(L ++ moreE V a p L, k + 1, .sh (eL eS ((nbs p).filter fun x => decide (V x = V a)))), ?_, ⟨hs.step hn ha hp, fun d => by simp⟩, by show 16 - (k + 1) < 16 - k; omega⟩
    simp
    refine bind_of _ (comp_enc (ρ0 := [.sh (eTb (tblT n V)), .sh (eS a), .ow (eL eS L), .sh (.int k), v, .un]) eS eS (nbs p) (fun x => decide (V x = V a)) id ?_ rfl rfl rfl (by rw [lim_eq]; omega) fun x hx => ⟨_, rfl, ?_, fun _ => rfl, rfl⟩) ?_
    · simp [hix, r_states_beside hpl]
    · simp [ixT (mem_nbs hpn hx), ixT ha]
    · simp
      refine bind_of _ (comp_enc (ρ0 := [.sh (eTb (tblT n V)), .sh (eS a), .ow (eL eS L), .sh (.int k), .sh (eL eS ((nbs p).filter fun x => decide (V x = V a))), .un]) eS eS ((nbs p).filter fun x => decide (V x = V a)) (fun x => decide (x ∉ L)) id ?_ rfl rfl rfl ?_ fun x hx => ⟨_, rfl, ?_, fun _ => rfl, rfl⟩) ?_
      · simp
      · have := List.length_filter_le (fun x => decide (V x = V a)) (nbs p)
        rw [lim_eq]; omega
      · simp [inD_lst (e := eS) (by decide)]
      · have e : (((nbs p).filter fun x => decide (V x = V a)).filter fun x => decide (x ∉ L)) = moreE V a p L := rfl
        rw [List.map_id, e]
        have hm : (moreE V a p L).length ≤ 16 := Nat.le_trans (List.length_filter_le _ _) (Nat.le_trans (List.length_filter_le _ _) hnb)
        simp [extD_eL (e := eS) (l := L) (m := moreE V a p L) (by rw [lim_eq]; omega)]
end VL

set_option linter.all false
set_option maxRecDepth 100000
set_option maxHeartbeats 1000000
/-! Q4: bottoms; turns, changes, nets. -/
namespace VL
open PySem PySem.W PyProof.Rows
/-- the lot of a state -/
noncomputable def lvl (n : Nat) (V : St → Int) (a : St) : List St := runT (eT eS) (m_level_of.run [eTb (tblT n V), eS a])
theorem r_level_of {n : Nat} (h1 : 1 ≤ n) (hn : n ≤ 4) {V : St → Int} {a : St} (ha : a ∈ allSt n) : m_level_of.run [eTb (tblT n V), eS a] = .ok (eT eS (lvl n V a), []) ∧ (lvl n V a).Nodup ∧ (∀ s, s ∈ lvl n V a ↔ InE V a s) ∧ (lvl n V a).Pairwise (fun a b => lexB ltI b a = false) := by
  obtain ⟨L, g1, g2, g3⟩ := level_ex h1 hn (V := V) ha
  have e : lvl n V a = sortT (lexB ltI) L := runT_eq g1
  rw [e]
  exact ⟨g1, sortT_perm.nodup_iff.mpr g2, fun s => mem_sortT.trans (g3 s), sortT_pairwise L⟩
/-- a lot is a bottom, told at its first state -/
noncomputable def botB (n : Nat) (V : St → Int) (s : St) : Bool := decide ((lvl n V s).head? = some s) && decide (∀ o ∈ lvl n V s, ∀ x ∈ nbs o, V s ≤ V x)
noncomputable def botT (n : Nat) (V : St → Int) : List (List St) := ((allSt n).filter (botB n V)).map (lvl n V)
theorem r_bottoms_by {n : Nat} (h1 : 1 ≤ n) (hn : n ≤ 4) {V : St → Int} : m_bottoms_by.run [eTb (tblT n V)] = .ok (eL (eT eS) (botT n V), []) := by
  have h16 := small_allSt hn
  rw [m_bottoms_by, run_eq rfl]
  simp [b_bottoms_by, lim_eq, items_tbl]
  refine bind_ex (for_inv eS (fun s : List (List St) × SV × SV × SV => [.sh (eTb (tblT n V)), .ow (eL (eT eS) s.1), s.2.1, s.2.2.1, s.2.2.2, .un, .un]) (allSt n) (fun xs s => s.1 ++ (xs.filter (botB n V)).map (lvl n V) = botT n V ∧ (∃ ys, ys ++ xs = allSt n) ∧ s.1.length + xs.length ≤ 16 ∧ (∀ d, s.2.1 ≠ .ow d) ∧ (∀ d, s.2.2.1 ≠ .ow d) ∧ (∀ d, s.2.2.2 ≠ .ow d)) ([], .un, .un, .un) ⟨by simp [botT], ⟨[], rfl⟩, by simpa using h16, by simp, by simp, by simp⟩ ?_) ?_
  · intro s xs st ⟨g1, ⟨ys, g2⟩, g3, g4, g5, g6⟩
    obtain ⟨acc, v2, v3, v4⟩ := st
    have hs : s ∈ allSt n := by rw [← g2]; simp
    obtain ⟨l1, l2, l3, l4⟩ := r_level_of h1 hn (V := V) hs
    have hls : ∀ x ∈ lvl n V s, x ∈ allSt n := fun x hx => ((l3 x).mp hx).st hs
    have l16 := lot_small hn l2 hls
    obtain ⟨hd, tl, hlv⟩ : ∃ hd tl, lvl n V s = hd :: tl := by
      cases e : lvl n V s with
      | nil =>
        have := (l3 s).mpr .refl
        rw [e] at this
        cases this
      | cons hd tl => exact ⟨_, _, rfl⟩
    have hix : ixD (eT eS (lvl n V s)) (.int 0) = some (eS hd) := ixD_tup (by decide) (by rw [hlv]; rfl)
    refine ⟨_, (if botB n V s then acc ++ [lvl n V s] else acc, .sh (eS s), .sh (eT eS (lvl n V s)), .sh (eL eS ((lvl n V s).flatMap fun o => (nbs o).filter fun x => decide (V x < V s)))), rfl, .inl ?_, ?_⟩
    · simp [l1]
      refine bind_of _ (comp2_enc (ρ0 := [.sh (eTb (tblT n V)), .ow (eL (eT eS) acc), .sh (eS s), .sh (eT eS (lvl n V s)), v4, .un, .un]) eS eS eS (lvl n V s) (fun _ => true) (fun o => nbs o) (fun o x => decide (V x < V s)) (fun o x => x) (by simp) rfl rfl rfl ?_ fun o ho => ⟨_, rfl, rfl, rfl, fun _ => ⟨?_, _, rfl, rfl, fun x hx => ⟨_, rfl, ?_, fun _ => ?_, rfl⟩⟩⟩) ?_
      · rw [filter_yes]
        have : ∀ l : List St, (∀ x ∈ l, x ∈ allSt n) → (l.flatMap fun o => nbs o).length ≤ l.length * 4 := fun l => by
          induction l with
          | nil => intro _; simp
          | cons a l ih =>
            intro h
            have q1 := ih fun x hx => h x (by simp [hx])
            have q2 := (mem_allSt.mp (h a (by simp))).1
            have q3 : (nbs a).length = a.length := by simp [nbs]
            rw [List.flatMap_cons, List.length_append, List.length_cons]
            omega
        have := this _ hls
        rw [lim_eq]; omega
      · have := (mem_allSt.mp (hls o ho)).1
        simp [r_states_beside (show o.length ≤ 16 by omega)]
      · simp [ixT (mem_nbs (hls o ho) hx), ixT hs]
      · simp
      · have hac : acc.length < 1000000 := by simp at g3; omega
        have e1 : (lvl n V s).head? = some hd := by rw [hlv]; rfl
        simp [hix, eqD_tup (e := PyData.int) (by decide), lim_eq]
        by_cases q1 : hd = s
        · simp [q1, eqD_lst0 (e := eS) (by decide)]
          by_cases q2 : ∀ o ∈ lvl n V s, ∀ x ∈ nbs o, V s ≤ V x
          · have hb : botB n V s = true := by unfold botB; rw [e1, q1, decide_eq_true q2]; simp
            rw [if_pos q2]
            simp [hb, appD_eL (e := eT eS) (l := acc) (a := lvl n V s) (by rw [lim_eq]; exact hac)]
          · have hb : botB n V s = false := by unfold botB; rw [decide_eq_false q2]; simp
            rw [if_neg q2]
            simp [hb]
        · have hb : botB n V s = false := by unfold botB; rw [e1]; simp [q1]
          simp [q1, hb]
    · refine ⟨?_, ⟨ys ++ [s], by rw [← g2]; simp⟩, ?_, by simp, by simp, by simp⟩
      · rw [← g1, List.filter_cons]
        cases botB n V s <;> simp
      · have g3 : acc.length + (xs.length + 1) ≤ 16 := by simpa using g3
        show (if botB n V s = true then acc ++ [lvl n V s] else acc).length + xs.length ≤ 16
        split
        · simp; omega
        · omega
  · intro st ⟨g1, _⟩
    obtain ⟨acc, v2, v3, v4⟩ := st
    have g1 : acc = botT n V := by simpa using g1
    simp [g1]
theorem r_bottoms {n : Nat} (h1 : 1 ≤ n) (hn : n ≤ 4) {E : En} (hE : EOk n E) : m_bottoms.run [.int n, eE E] = .ok (eL (eT eS) (botT n (valT E)), []) := by
  rw [m_bottoms, run_eq rfl]
  simp [b_bottoms, r_need_switches_energy h1 hn hE, r_values_by n hn E hE, r_bottoms_by h1 hn]
/-! ### turns -/
theorem r_turns_by {n : Nat} (hn : n ≤ 4) : m_turns_by.run [.int n] = .ok (eL eQ (turnsT n), []) := by
  have h1 : (n : Int) ≤ 1000000 := by omega
  have h2 : (-1000000 : Int) ≤ n := by omega
  have h16 := small_allSt hn
  rw [m_turns_by, run_eq rfl]
  simp [b_turns_by]
  refine bind_of _ (comp2_map (ρ0 := [.sh (.int n), .un, .un]) eS PyData.int eQ (allSt n) (fun _ => rngI n) (fun s i => (s, i)) ?_ rfl rfl rfl 4 ?_ ?_ ?_) ?_
  · simp [r_all_states n hn]
  · intro s _; simp; exact hn
  · rw [lim_eq]; omega
  · intro s hs
    refine ⟨_, rfl, rfl, ?_, _, rfl, rfl, fun i hi => ⟨_, rfl, ?_, rfl⟩⟩
    · simp [lim_eq, h1, h2]
    · simp [lim_eq]
      rfl
  · simp [turnsT]
theorem r_behind_step {n : Nat} (hn : n ≤ 4) {t : Tn} (ht : t ∈ turnsT n) : m_behind_step.run [eQ t] = .ok (eS (turn t.1 t.2), []) := by
  obtain ⟨h1, h2, h3⟩ := mem_turnsT.mp ht
  have hl := (mem_allSt.mp h1).1
  rw [m_behind_step, run_eq rfl]
  simp [b_behind_step, r_turned_at h2 (by rw [hl]; exact h3) (by omega)]
theorem r_turn_in {n : Nat} (hn : n ≤ 4) {t : Tn} (ht : t ∈ turnsT n) {a : St} (ha : ∀ i ∈ a, 0 ≤ i ∧ i < (n : Int)) (hl : a.length ≤ 16) : m_turn_in.run [eS a, eQ t] = .ok (.int (prodT a (turn t.1 t.2) - prodT a t.1), []) := by
  obtain ⟨h1, h2, h3⟩ := mem_turnsT.mp ht
  have l1 := (mem_allSt.mp h1).1
  have l2 := (mem_allSt.mp (turn_mem h1 h2 h3)).1
  rw [m_turn_in, run_eq rfl]
  simp [b_turn_in, r_behind_step hn ht, r_product_at a _ (by rw [l1]; exact ha) hl, r_product_at a _ (by rw [l2]; exact ha) hl]
theorem r_change_by {n : Nat} (hn : n ≤ 4) {E : En} (hE : EOk n E) {t : Tn} (ht : t ∈ turnsT n) : m_change_by.run [eE E, eQ t] = .ok (.int (chgT E t), []) := by
  obtain ⟨e1, e2, e3⟩ := hE.val
  rw [m_change_by, run_eq rfl]
  simp [b_change_by]
  refine bind_of _ (comp_map (ρ0 := [.sh (eE E), .sh (eQ t), .un, .un]) eQ PyData.int E (fun q => q.2 * (prodT q.1 (turn t.1 t.2) - prodT q.1 t.1)) (by simp) rfl rfl rfl (by rw [lim_eq]; omega) fun q hq => ⟨_, rfl, ?_, rfl⟩) ?_
  · have h1 := e2 q hq
    have h2 : (prodT q.1 (turn t.1 t.2) - prodT q.1 t.1).natAbs < 18446744073709551616 := by
      have := prod_small q.1 (turn t.1 t.2)
      unfold prodT
      split <;> split <;> decide
    simp [r_turn_in hn ht (e1 q hq) (show q.1.length ≤ 16 by omega), h2]
  · simp [chgT]
/-- the turns that bring an energy down -/
def downT (n : Nat) (E : En) : List Tn := (turnsT n).filter fun t => decide (chgT E t < 0)
def tieT (n : Nat) (E : En) : List Tn := (turnsT n).filter fun t => decide (chgT E t = 0)
theorem r_tie_turns {n : Nat} (h1 : 1 ≤ n) (hn : n ≤ 4) {E : En} (hE : EOk n E) : m_tie_turns.run [.int n, eE E] = .ok (eL eQ (tieT n E), []) := by
  have := turnsT_small hn
  rw [m_tie_turns, run_eq rfl]
  simp [b_tie_turns, r_need_switches_energy h1 hn hE]
  refine bind_of _ (comp_enc (ρ0 := [.sh (.int n), .sh (eE E), .un]) eQ eQ (turnsT n) (fun t => decide (chgT E t = 0)) id ?_ rfl rfl rfl (by rw [lim_eq]; omega) fun t ht => ⟨_, rfl, ?_, fun _ => rfl, rfl⟩) ?_
  · simp [r_turns_by hn]
  · simp [r_change_by hn hE ht]
  · simp [tieT]
end VL

set_option linter.all false
set_option maxRecDepth 100000
set_option maxHeartbeats 1000000
/-! Q5: nets made and read. -/
namespace VL
open PySem PySem.W PyProof.Rows
theorem tup_eQ {s : St} {i : Int} : PyData.tuple [eT PyData.int s, PyData.int i] = eQ (s, i) := rfl
theorem r_is_list {α : Type} {e : α → D} {l : List α} : m_is_list.run [eL e l] = .ok (.bool true, []) := by
  rw [m_is_list, run_eq rfl]
  simp [b_is_list]
theorem r_states_many {n : Nat} (hn : n ≤ 4) : m_states_many.run [.int n] = .ok (.int ((2 ^ n : Nat) : Int), []) := by
  have := length_allSt n
  rw [m_states_many, run_eq rfl]
  simp [b_states_many, r_all_states n hn, this]
theorem r_need_rules {n : Nat} (h1 : 1 ≤ n) (hn : n ≤ 4) {rs : List St} (hl : rs.length = n) (hr : ∀ r ∈ rs, r.length = 2 ^ n ∧ ∀ x ∈ r, x = 0 ∨ x = 1) : m_need_rules.run [eL eS rs] = .ok (.none, []) := by
  have h2 : ¬ (4 : Int) < n := by omega
  have h3 : ¬ (n : Int) < 1 := by omega
  have p16 : 2 ^ n ≤ 16 := Nat.pow_le_pow_right (n := 2) (by decide) hn
  rw [m_need_rules, run_eq rfl]
  simp [b_need_rules, r_is_list, hl, h2, h3, r_states_many hn]
  refine bind_ex (for_inv (eP PyData.int eS) (fun s : SV × SV => [.sh (eL eS rs), .sh (.int ((2 ^ n : Nat) : Int)), s.1, s.2]) (enumT rs) (fun xs s => ∀ q ∈ xs, q.2 ∈ rs) (.un, .un) (fun q hq => List.mem_of_getElem? (mem_enumT.mp hq).2) ?_) ?_
  · intro q xs s hp
    obtain ⟨g1, g2⟩ := hr q.2 (hp q (by simp))
    have := r_is_tuple_of q.2 0 1 (fun x hx => by rcases g2 x hx with h | h <;> subst h <;> decide) (by rw [g1]; exact p16)
    rw [g1] at this
    refine ⟨_, (.sh (.int q.1), .sh (eS q.2)), rfl, .inl ?_, fun z hz => hp z (by simp [hz])⟩
    simp at this
    simp [this]
  · intro s _
    simp
theorem foldl_snoc {α β : Type} (f : α → β) : ∀ (xs : List α) (acc : List β), xs.foldl (fun a x => a ++ [f x]) acc = acc ++ xs.map f
  | [], acc => by simp
  | x :: xs, acc => by rw [List.foldl_cons, foldl_snoc f xs]; simp
theorem insOf_Dins {c : Nat} {fs : List D} : insOf (.dict [(.none, .int c), (.none, .list fs)]) = some ((c : Int), fs) := rfl
theorem r_Net_init {n : Nat} (h1 : 1 ≤ n) (hn : n ≤ 4) {g : Int → St → Int} (hg : ∀ i ∈ rngI n, ∀ s ∈ allSt n, g i s = 0 ∨ g i s = 1) : m_Net_init.run [Dins 1 [], eL eS ((rngI n).map fun i => (allSt n).map (g i))] = .ok (.none, [netE n g]) := by
  have hr := r_need_rules h1 hn (rs := (rngI n).map fun i => (allSt n).map (g i)) (by simp) (fun r hr => by
    obtain ⟨i, hi, rfl⟩ := List.mem_map.mp hr
    refine ⟨by rw [List.length_map, length_allSt], fun x hx => ?_⟩
    obtain ⟨s, hs, rfl⟩ := List.mem_map.mp hx
    exact hg i hi s hs)
  have h16 := small_allSt hn
  generalize hrs : ((rngI n).map fun i => (allSt n).map (g i)) = rs at hr
  have hlen : rs.length = n := by rw [← hrs]; simp
  rw [m_Net_init, run_eq rfl]
  have f0 : fldD 1 0 (Dins 1 []) (eT eS rs) = some (Dins 1 [eT eS rs]) := rfl
  simp [b_Net_init, hr, f0, hlen, r_all_states n hn]
  refine bind_ex (for_inv (eP PyData.int eS) (fun s : List (St × St) × SV × SV => [.ow (Dins 1 [eT eS rs]), .sh (eL eS rs), .ow (eD eS eS s.1), s.2.1, s.2.2, .un]) (enumT (allSt n)) (fun xs s => s.1 ++ (xs.map fun q => (q.2, (rngI n).map fun i => g i q.2)) = ((allSt n).map fun s => (s, (rngI n).map fun i => g i s)) ∧ (∀ q ∈ xs, q ∈ enumT (allSt n))) ([], .un, .un) ⟨?_, fun q hq => hq⟩ ?_) ?_
  · simp only [List.nil_append]
    have e : (enumT (allSt n)).map (fun q => (q.2, (rngI n).map fun i => g i q.2)) = ((enumT (allSt n)).map (·.2)).map fun s => (s, (rngI n).map fun i => g i s) := by
      rw [List.map_map]; rfl
    rw [e]
    congr 1
    unfold enumT
    rw [List.map_snd_zip]
    simp
  · intro q xs st ⟨g1, g2⟩
    obtain ⟨acc, v3, v4⟩ := st
    obtain ⟨k, s⟩ := q
    obtain ⟨hk, hks⟩ := mem_enumT.mp (g2 (k, s) (by simp))
    have hks : (allSt n)[k.toNat]? = some s := hks
    have hk : 0 ≤ k := hk
    refine ⟨_, (acc ++ [(s, (rngI n).map fun i => g i s)], .sh (.int k), .sh (eS s)), rfl, .inl ?_, ?_⟩
    · simp
      refine bind_of _ (comp_map (ρ0 := [.ow (Dins 1 [eT eS rs]), .sh (eL eS rs), .ow (eD eS eS acc), .sh (.int k), .sh (eS s), .un]) (fun i => eS ((allSt n).map (g i))) PyData.int (rngI n) (fun i => g i s) ?_ rfl rfl rfl (by rw [lim_eq]; simp; omega) fun i hi => ⟨_, rfl, ?_, rfl⟩) ?_
      · simp [← hrs]
      · have : ixD (eS ((allSt n).map (g i))) (.int k) = some (.int (g i s)) := ixD_tup hk (by rw [List.getElem?_map, hks]; rfl)
        simp [this]
      · have hnd := allSt_nodup hn
        have e1 : acc.map (·.1) ++ (((k, s) :: xs).map fun q => q.2) = allSt n := by
          have := congrArg (List.map (·.1)) g1
          simpa [List.map_map, Function.comp_def] using this
        have hnew : s ∉ acc.map (·.1) := by
          intro z
          rw [← e1, List.nodup_append] at hnd
          exact hnd.2.2 s z s (by simp) rfl
        have hal : acc.length < 1000000 := by
          have := congrArg List.length e1
          simp at this
          omega
        have := putD_dict (ek := eS) (ev := eS) (by decide) acc s ((rngI n).map fun i => g i s) (by rw [lim_eq]; exact hal)
        have hput : aput acc s ((rngI n).map fun i => g i s) = acc ++ [(s, (rngI n).map fun i => g i s)] := by
          unfold aput
          rw [if_neg hnew]
        rw [hput] at this
        simp [this]
    · refine ⟨?_, fun z hz => g2 z (by simp [hz])⟩
      rw [← g1]
      simp
  · intro st ⟨g1, _⟩
    obtain ⟨acc, v3, v4⟩ := st
    have g1 : acc = (allSt n).map fun s => (s, (rngI n).map fun i => g i s) := by simpa using g1
    have f1 : fldD 1 1 (Dins 1 [eT eS rs]) (eD eS eS acc) = some (Dins 1 [eT eS rs, eD eS eS acc]) := rfl
    rw [g1] at f1
    simp [fzOk_eD, f1, netE, hrs, g1]
theorem gOf_01 {n : Nat} {S : List Tn} {i : Int} {s : St} (hs : s ∈ allSt n) (h0 : 0 ≤ i) (hi : i < n) : gOf S i s = 0 ∨ gOf S i s = 1 := by
  obtain ⟨h1, h2⟩ := mem_allSt.mp hs
  have := h2 _ (List.mem_of_getElem? (getD_of h0 (show i < s.length by omega)))
  unfold gOf
  split <;> omega
theorem r_net_by_steps {n : Nat} (h1 : 1 ≤ n) (hn : n ≤ 4) {S : List Tn} (hS : S.Nodup) (hl : S.length ≤ 64) : m_net_by_steps.run [.int n, eL eQ S] = .ok (netOf n S, []) := by
  have h2 : (n : Int) ≤ 1000000 := by omega
  have h3 : (-1000000 : Int) ≤ n := by omega
  have h16 := small_allSt hn
  have hi := r_Net_init h1 hn (g := gOf S) (fun i hi s hs => gOf_01 hs (mem_rngI.mp hi).1 (mem_rngI.mp hi).2)
  rw [m_net_by_steps, run_eq rfl]
  simp [b_net_by_steps]
  refine bind_of _ (dcomp_map (ρ0 := [.sh (.int n), .sh (eL eQ S), .un, .un, .un, .un, .un, .un]) eQ eQ PyData.bool (by decide) S id (fun _ => true) (by simpa using hS) (by simp) rfl rfl rfl (by rw [lim_eq]; omega) fun t ht => ⟨_, rfl, rfl, rfl, rfl⟩) ?_
  simp [lim_eq, h2, h3, fzOk_eD]
  have ein : ∀ t : Tn, inD (eQ t) (eD eQ PyData.bool (S.map fun t => (t, true))) = some (decide (t ∈ S)) := fun t => by
    rw [inD_dict (by decide), List.map_map]
    simp [Function.comp_def]
  refine bind_ex (for_inv PyData.int (fun s : List St × SV × SV × SV => [.sh (.int n), .sh (eL eQ S), .sh (eD eQ PyData.bool (S.map fun t => (t, true))), .ow (eL eS s.1), s.2.1, s.2.2.1, s.2.2.2, .un]) (rngI n) (fun xs s => s.1 ++ (xs.map fun i => (allSt n).map (gOf S i)) = ((rngI n).map fun i => (allSt n).map (gOf S i)) ∧ ∀ i ∈ xs, i ∈ rngI n) ([], .un, .un, .un) ⟨by simp, fun i hi => hi⟩ ?_) ?_
  · intro i xs st ⟨g1, g2⟩
    obtain ⟨acc, v4, v5, v6⟩ := st
    obtain ⟨i0, i1⟩ := mem_rngI.mp (g2 i (by simp))
    have hal : acc.length < 1000000 := by
      have := congrArg List.length g1
      simp at this
      omega
    obtain ⟨⟨r, v⟩, k1, k2⟩ := for_inv (t := .nm 6) (fb := sApp 5 (fIte (fBin (fTup (fCons (fVar 6) (fCons (fVar 4) fNil))) (fVar 2) (cmpR COp.isin)) (fBin (fC (PyData.int 1)) (fBin (fVar 6) (fVar 4) ixR) (binD MOp.sub)) (fBin (fVar 6) (fVar 4) ixR)) appD) eS
        (fun s : List Int × SV => [.sh (.int n), .sh (eL eQ S), .sh (eD eQ PyData.bool (S.map fun t => (t, true))), .ow (eL eS acc), .sh (.int i), .ow (eL PyData.int s.1), s.2, .un]) (allSt n) (fun xs s => s.1 ++ xs.map (gOf S i) = (allSt n).map (gOf S i) ∧ ∀ s ∈ xs, s ∈ allSt n) ([], v6) ⟨by simp, fun s hs => hs⟩ (fun s ys st ⟨k1, k2⟩ => by
      obtain ⟨r, v⟩ := st
      have hs := k2 s (by simp)
      have hrl : r.length < 1000000 := by
        have := congrArg List.length k1
        simp at this
        omega
      have hix := ixD_tup (e := PyData.int) i0 (getD_of i0 (show i < s.length by rw [(mem_allSt.mp hs).1]; exact i1))
      refine ⟨_, (r ++ [gOf S i s], .sh (eS s)), rfl, .inl ?_, ?_, fun z hz => k2 z (by simp [hz])⟩
      · have happ := appD_eL (e := PyData.int) (l := r) (a := gOf S i s) (by rw [lim_eq]; exact hrl)
        have e1 := ein (s, i)
        by_cases q : (s, i) ∈ S
        · have e2 : gOf S i s = 1 - s.getD i.toNat 0 := by unfold gOf; rw [if_pos q]
          rw [e2] at happ ⊢
          simp at happ hix
          simp [lim_eq, tup_eQ, e1, q, hix, happ]
        · have e2 : gOf S i s = s.getD i.toNat 0 := by unfold gOf; rw [if_neg q]
          rw [e2] at happ ⊢
          simp at happ hix
          simp [lim_eq, tup_eQ, e1, q, hix, happ]
      · rw [← k1]
        simp)
    have k1 : r = (allSt n).map (gOf S i) := by simpa using k1.1
    subst k1
    refine ⟨_, (acc ++ [(allSt n).map (gOf S i)], .sh (.int i), .ow (eL PyData.int ((allSt n).map (gOf S i))), v), rfl, .inl ?_, ?_⟩
    · simp [r_all_states n hn, lim_eq]
      refine bind_of _ k2 ?_
      have happ := appD_eL (e := eS) (l := acc) (a := (allSt n).map (gOf S i)) (by rw [lim_eq]; exact hal)
      simp [happ]
    · refine ⟨?_, fun z hz => g2 z (by simp [hz])⟩
      rw [← g1]
      simp
  · intro st ⟨g1, _⟩
    obtain ⟨acc, v4, v5, v6⟩ := st
    have g1 : acc = (rngI n).map fun i => (allSt n).map (gOf S i) := by simpa using g1
    have : netOf n S = netE n (gOf S) := rfl
    simp [g1, hi]
    rfl
end VL

set_option linter.all false
set_option maxRecDepth 100000
set_option maxHeartbeats 1000000
/-! Q6: nets read, walked. -/
namespace VL
open PySem PySem.W PyProof.Rows
theorem downT_nodup {n : Nat} (hn : n ≤ 4) {E : En} : (downT n E).Nodup := (turnsT_nodup hn).filter _
theorem downT_small {n : Nat} (hn : n ≤ 4) {E : En} : (downT n E).length ≤ 64 := Nat.le_trans (List.length_filter_le _ _) (turnsT_small hn)
theorem r_net_by_energy {n : Nat} (h1 : 1 ≤ n) (hn : n ≤ 4) {E : En} (hE : EOk n E) : m_net_by_energy.run [.int n, eE E] = .ok (netOf n (downT n E), []) := by
  have := turnsT_small hn
  rw [m_net_by_energy, run_eq rfl]
  simp [b_net_by_energy]
  refine bind_of _ (comp_enc (ρ0 := [.sh (.int n), .sh (eE E), .un]) eQ eQ (turnsT n) (fun t => decide (chgT E t < 0)) id ?_ rfl rfl rfl (by rw [lim_eq]; omega) fun t ht => ⟨_, rfl, ?_, fun _ => rfl, rfl⟩) ?_
  · simp [r_turns_by hn]
  · simp [r_change_by hn hE ht]
  · have e : (turnsT n).filter (fun t => decide (chgT E t < 0)) = downT n E := rfl
    rw [List.map_id, e]
    simp [r_net_by_steps h1 hn (downT_nodup hn) (downT_small hn)]
theorem r_net_of_energy {n : Nat} (h1 : 1 ≤ n) (hn : n ≤ 4) {E : En} (hE : EOk n E) : m_net_of_energy.run [.int n, eE E] = .ok (netOf n (downT n E), []) := by
  rw [m_net_of_energy, run_eq rfl]
  simp [b_net_of_energy, r_need_switches_energy h1 hn hE, r_net_by_energy h1 hn hE]
section
variable {n : Nat} {g : Int → St → Int}
theorem fld0 : fldR 1 0 (netE n g) = some (.sh (eT eS ((rngI n).map fun i => (allSt n).map (g i)))) := rfl
theorem fld1 : fldR 1 1 (netE n g) = some (.sh (eD eS eS ((allSt n).map fun s => (s, (rngI n).map fun i => g i s)))) := rfl
@[simp] theorem fz_net : fzOk (netE n g) = true := rfl
@[simp] theorem ist_net : istOk (netE n g) = true := rfl
@[simp] theorem isTy_net : isTy (netE n g) (.cls 1) = true := rfl
theorem r_Net_switches : m_Net_switches.run [netE n g] = .ok (.int n, []) := by
  rw [m_Net_switches, run_eq rfl]
  simp [b_Net_switches, fld0]
theorem prop_sw : propOk m_Net_switches 1 (netE n g) = true := rfl
theorem r_need_net (d : D) : m_need_net.run [netE n g, d] = .ok (.none, []) := by
  rw [m_need_net, run_eq rfl]
  simp [b_need_net]
theorem r_need_net_state (hn : n ≤ 4) {s : St} (hs : s ∈ allSt n) : m_need_net_state.run [netE n g, eS s] = .ok (.none, []) := by
  rw [m_need_net_state, run_eq rfl]
  simp [b_need_net_state, r_need_net, r_Net_switches, prop_sw, r_need_state hn hs]
theorem r_next_by {s : St} (hs : s ∈ allSt n) : m_next_by.run [netE n g, eS s] = .ok (eS ((rngI n).map fun i => g i s), []) := by
  have e := ixD_dict (ek := eS) (ev := eS) (by decide) ((allSt n).map fun s => (s, (rngI n).map fun i => g i s)) s
  rw [alook_tbl (V := fun s => (rngI n).map fun i => g i s) hs] at e
  rw [m_next_by, run_eq rfl]
  simp [b_next_by, fld1]
  simp at e
  simp [e]
end
section
variable {n : Nat} {S : List Tn}
theorem wants_eq {s : St} (hs : s ∈ allSt n) : ((enumT s).filter fun q => decide (((rngI n).map fun i => gOf S i s).getD q.1.toNat 0 ≠ q.2)).map (·.1) = wT n S s := by
  have hl := (mem_allSt.mp hs).1
  rw [enumT_eq, hl, List.filter_map, List.map_map]
  have e : ((fun q : Int × Int => q.1) ∘ fun i => (i, s.getD i.toNat 0)) = id := rfl
  rw [e, List.map_id]
  unfold wT
  refine List.filter_congr fun i hi => ?_
  obtain ⟨h0, h1⟩ := mem_rngI.mp hi
  have hx := (mem_allSt.mp hs).2 _ (List.mem_of_getElem? (getD_of h0 (show i < s.length by omega)))
  have e2 : ((rngI n).map fun i => gOf S i s).getD i.toNat 0 = gOf S i s := by
    have : (rngI n)[i.toNat]? = some i := by
      unfold rngI
      rw [List.getElem?_map, List.getElem?_range (by omega)]
      simp
      omega
    rw [List.getD_eq_getElem?_getD, List.getElem?_map, this]
    rfl
  simp only [Function.comp]
  rw [e2]
  unfold gOf
  by_cases q : (s, i) ∈ S
  · rw [if_pos q]
    simp only [q, decide_true, decide_eq_true_eq]
    omega
  · rw [if_neg q]
    simp [q]
theorem r_wants_by (hn : n ≤ 4) {s : St} (hs : s ∈ allSt n) : m_wants_by.run [netOf n S, eS s] = .ok (eS (wT n S s), []) := by
  have hl := (mem_allSt.mp hs).1
  rw [m_wants_by, run_eq rfl]
  simp [b_wants_by, r_next_by hs]
  refine bind_of _ (comp_enc (ρ0 := [.sh (netOf n S), .sh (eS s), .sh (eS ((rngI n).map fun i => gOf S i s)), .un, .un]) (eP PyData.int PyData.int) PyData.int (enumT s) (fun q => decide (((rngI n).map fun i => gOf S i s).getD q.1.toNat 0 ≠ q.2)) (·.1) (by simp) rfl rfl rfl ?_ fun q hq => ⟨_, rfl, ?_, fun _ => rfl, rfl⟩) ?_
  · rw [lim_eq, enumT_eq]; simp; omega
  · obtain ⟨h0, h1⟩ := mem_enumT.mp hq
    have hk := (List.getElem?_eq_some_iff.mp h1).1
    have hix := ixD_tup (e := PyData.int) h0 (getD_of (s := (rngI n).map fun i => gOf S i s) h0 (by simp; omega))
    simp at hix
    simp [hix]
  · rw [wants_eq hs]
    simp
theorem r_wants (hn : n ≤ 4) {s : St} (hs : s ∈ allSt n) : m_wants.run [netOf n S, eS s] = .ok (eS (wT n S s), []) := by
  rw [m_wants, run_eq rfl]
  simp [b_wants, r_need_net_state hn hs, r_wants_by hn hs]
theorem wT_small (hn : n ≤ 4) {s : St} : (wT n S s).length ≤ 4 := by
  have := List.length_filter_le (fun i => decide ((s, i) ∈ S)) (rngI n)
  rw [length_rngI] at this
  unfold wT
  omega
theorem r_next_states (hn : n ≤ 4) {s : St} (hs : s ∈ allSt n) : m_next_states.run [netOf n S, eS s] = .ok (eL eS (nxtT n S s), []) := by
  have hl := (mem_allSt.mp hs).1
  have := wT_small (S := S) hn (s := s)
  rw [m_next_states, run_eq rfl]
  simp [b_next_states]
  refine bind_of _ (comp_map (ρ0 := [.sh (netOf n S), .sh (eS s), .un]) PyData.int eS (wT n S s) (turn s) ?_ rfl rfl rfl (by rw [lim_eq]; omega) fun i hi => ⟨_, rfl, ?_, rfl⟩) ?_
  · simp [r_wants_by hn hs]
  · obtain ⟨⟨h0, h1⟩, _⟩ := mem_wT.mp hi
    simp [r_turned_at h0 (show i < s.length by omega) (by omega)]
  · simp [nxtT]
theorem nxtT_mem {s x : St} (hs : s ∈ allSt n) (hx : x ∈ nxtT n S s) : x ∈ allSt n := by
  unfold nxtT at hx
  obtain ⟨i, hi, rfl⟩ := List.mem_map.mp hx
  obtain ⟨⟨h0, h1⟩, _⟩ := mem_wT.mp hi
  exact turn_mem hs h0 h1
theorem r_is_rest_by (hn : n ≤ 4) {s : St} (hs : s ∈ allSt n) : m_is_rest_by.run [netOf n S, eS s] = .ok (.bool (decide (wT n S s = [])), []) := by
  rw [m_is_rest_by, run_eq rfl]
  simp [b_is_rest_by, r_wants_by hn hs, lim_eq, eqD_tup0 (e := PyData.int) (by decide)]
/-- steps lead there -/
def Led (n : Nat) (S : List Tn) (a s : St) : Prop := Rch (fun b c => c ∈ nxtT n S b) a s
theorem Led.st {a s : St} (ha : a ∈ allSt n) (h : Led n S a s) : s ∈ allSt n := h.mem ha fun _ _ hb r => nxtT_mem hb r
abbrev eF : List (St × List St) → D := eD eS (eL eS)
theorem alook_mem {β : Type} : ∀ {l : List (St × β)} {s : St}, s ∈ l.map (·.1) → ∃ v, alook l s = some v ∧ (s, v) ∈ l
  | [], s, h => by cases h
  | (a, b) :: l, s, h => by
    rw [alook]
    by_cases q : a = s
    · subst q; exact ⟨b, by rw [if_pos rfl], by simp⟩
    · rw [if_neg q]
      obtain ⟨v, h1, h2⟩ := alook_mem (l := l) (s := s) (by
        rcases List.mem_cons.mp h with z | z
        · exact absurd z.symm q
        · exact z)
      exact ⟨v, h1, by simp [h2]⟩
theorem lines_ex (hn : n ≤ 4) {a : St} (ha : a ∈ allSt n) : ∃ F : List (St × List St), m_lines_by.run [netOf n S, eS a] = .ok (eF F, []) ∧ (F.map (·.1)).Nodup ∧ ∀ s, s ∈ F.map (·.1) ↔ Led n S a s := by
  have h0 : InvK (nxtT n S) a [a] 0 := ⟨by simp, Nat.zero_le _, by simp, fun s hs => by simp at hs; subst hs; exact .refl, fun i p hi => by omega⟩
  have key := whl_inv (c := fTest (ev (tb [m_next_states]) (.cmp .ne (.var 3) (.lst .nil)))) (fb := exB (tb [m_next_states]) (.cons (.set 4 false (.pop 3 (.int (0)))) (.cons (.for_ (.nm 5) (.seq (.call 0 (.cons (.var 0) (.cons (.var 4) .nil)) [])) (.cons (.ite (.cmp .notin (.var 5) (.var 2)) (.cons (.put 2 (.var 5) (.lst (.star (.ix (.var 2) (.var 4)) (.cons (.var 5) .nil)))) (.cons (.app 3 (.var 5)) .nil)) .nil) .nil)) .nil)))
    (fun s : List (St × List St) × Nat × SV × SV => [.sh (netOf n S), .sh (eS a), .ow (eF s.1), .ow (eL eS ((s.1.map (·.1)).drop s.2.1)), s.2.2.1, s.2.2.2]) (fun s => InvK (nxtT n S) a (s.1.map (·.1)) s.2.1 ∧ ∀ q ∈ s.1, q.2.length ≤ s.2.1 + 1) (fun s => 16 - s.2.1) (fun s => decide (s.2.1 < s.1.length)) ?_ ?_ fuel ([(a, [a])], 0, .un, .un) ⟨h0, by simp⟩ (by have := fuel_pos; omega)
  · obtain ⟨⟨F, k, v4, v5⟩, ⟨g1, _⟩, g2, g3⟩ := key
    have g1 : InvK (nxtT n S) a (F.map (·.1)) k := g1
    refine ⟨F, ?_, g1.nd, fun s => g1.fin (by simpa using g2) s⟩
    have hd : dic1 (eS a) (.list [eS a]) = some (.fr (eF [(a, [a])])) := by
      unfold dic1
      rw [keyT_enc (by decide)]
      rfl
    rw [m_lines_by, run_eq rfl]
    simp [b_lines_by, lim_eq, hd]
    refine bind_of _ g3 ?_
    simp [fzOk_eD]
  · intro s hs
    obtain ⟨F, k, v4, v5⟩ := s
    simp [lim_eq, eqD_lst0 (e := eS) (by decide)]
    show decide (F.length ≤ k) = !decide (k < F.length)
    by_cases q : k < F.length
    · simp [show ¬ F.length ≤ k by omega, q]
    · simp [show F.length ≤ k by omega, q]
  · intro s hs hc
    obtain ⟨F, k, v4, v5⟩ := s
    obtain ⟨hs, hpath⟩ := hs
    have hs : InvK (nxtT n S) a (F.map (·.1)) k := hs
    have hpath : ∀ q ∈ F, q.2.length ≤ k + 1 := hpath
    have hc : k < (F.map (·.1)).length := by simpa using hc
    generalize hL : F.map (·.1) = L at hs hc
    obtain ⟨p, hp⟩ : ∃ p, L[k]? = some p := ⟨_, List.getElem?_eq_getElem hc⟩
    have hks : ∀ s ∈ L, s ∈ allSt n := fun s h => Led.st ha (hs.inn s h)
    have hpn : p ∈ allSt n := hks p (List.mem_of_getElem? hp)
    have hk16 : L.length ≤ 16 := lot_small hn hs.nd hks
    obtain ⟨path, hpa, hpm⟩ := alook_mem (l := F) (s := p) (by rw [hL]; exact List.mem_of_getElem? hp)
    have hpl : path.length ≤ k + 1 := hpath _ hpm
    have hdrop : L.drop k = p :: L.drop (k + 1) := by
      rw [List.drop_eq_getElem_cons hc]
      congr 1
      rw [List.getElem?_eq_getElem hc] at hp
      exact Option.some.inj hp
    obtain ⟨⟨F2, v⟩, k1, k2⟩ := for_inv (t := .nm 5) (fb := sIf (fTest (fBin (fVar 5) (fVar 2) (cmpR COp.notin))) (sSeq (sPut 2 (fVar 5) (fLst (fStar (fBin (fVar 2) (fVar 4) ixR) (fCons (fVar 5) fNil)))) (sApp 3 (fVar 5) appD)) sNext) eS
        (fun s : List (St × List St) × SV => [.sh (netOf n S), .sh (eS a), .ow (eF s.1), .ow (eL eS ((s.1.map (·.1)).drop (k + 1))), .sh (eS p), s.2]) (nxtT n S p)
        (fun xs s => xs.foldl addK (s.1.map (·.1)) = (nxtT n S p).foldl addK L ∧ (s.1.map (·.1)).Nodup ∧ (∀ x ∈ s.1.map (·.1), x ∈ allSt n) ∧ (∃ r, s.1.map (·.1) = L ++ r) ∧ alook s.1 p = some path ∧ (∀ q ∈ s.1, q.2.length ≤ k + 2) ∧ ∀ x ∈ xs, x ∈ nxtT n S p) (F, v5)
        ⟨by rw [hL], by rw [hL]; exact hs.nd, by rw [hL]; exact hks, ⟨[], by rw [hL]; simp⟩, hpa, fun q hq => by have := hpath q hq; omega, fun x hx => hx⟩ (fun x xs st ⟨g1, g2, g3, ⟨r, g4⟩, g5, g6, g7⟩ => by
      obtain ⟨F, v⟩ := st
      simp only at g1 g2 g3 g4 g5 g6
      have hxn : x ∈ allSt n := nxtT_mem hpn (g7 x (by simp))
      have h16 := lot_small hn g2 g3
      have hF : F.length ≤ 16 := by simpa using h16
      have hin : inD (eS x) (eF F) = some (decide (x ∈ F.map (·.1))) := by
        refine (inD_dict (ek := eS) (ev := eL eS) (by decide) F x).trans ?_
        congr
      by_cases q : x ∈ F.map (·.1)
      · refine ⟨_, (F, .sh (eS x)), rfl, .inl ?_, ?_, g2, g3, ⟨r, g4⟩, g5, g6, fun z hz => g7 z (by simp [hz])⟩
        · rw [decide_eq_true q] at hin
          simp [hin]
        · rw [← g1, List.foldl_cons]
          unfold addK
          rw [if_neg (fun z => z q)]
      · have hix : ixD (eF F) (eS p) = some (eL eS path) := by
          rw [ixD_dict (by decide), g5]; rfl
        have hput := putD_dict (ek := eS) (ev := eL eS) (by decide) F x (path ++ [x]) (by rw [lim_eq]; omega)
        rw [show aput F x (path ++ [x]) = F ++ [(x, path ++ [x])] by unfold aput; rw [if_neg q]] at hput
        have hdl : ((F.map (·.1)).drop (k + 1)).length ≤ 16 := by rw [List.length_drop]; omega
        have happ := appD_eL (e := eS) (l := (F.map (·.1)).drop (k + 1)) (a := x) (by rw [lim_eq]; omega)
        have hmap : (F ++ [(x, path ++ [x])]).map (·.1) = F.map (·.1) ++ [x] := by simp
        have hdr : ((F ++ [(x, path ++ [x])]).map (·.1)).drop (k + 1) = (F.map (·.1)).drop (k + 1) ++ [x] := by
          rw [hmap, List.drop_append_of_le_length (by rw [g4, List.length_append]; omega)]
        refine ⟨_, (F ++ [(x, path ++ [x])], .sh (eS x)), rfl, .inl ?_, ?_, ?_, ?_, ⟨r ++ [x], by rw [hmap, g4]; simp⟩, ?_, ?_, fun z hz => g7 z (by simp [hz])⟩
        · rw [decide_eq_false q] at hin
          have hpl2 : path.length ≤ 999999 := by omega
          have hli : PyData.list (path.map eS ++ [eS x]) = eL eS (path ++ [x]) := by simp [eL]
          rw [hdr]
          simp [hin, hix, lim_eq, hpl2, hli, hput, happ]
        · rw [hmap, ← g1, List.foldl_cons]
          congr 1
          unfold addK
          rw [if_pos q]
        · rw [hmap, List.nodup_append]
          exact ⟨g2, by simp, fun a ha b hb z => by simp at hb; subst hb; subst z; exact q ha⟩
        · rw [hmap]
          intro z hz
          rcases List.mem_append.mp hz with hz | hz
          · exact g3 z hz
          · simp at hz; subst hz; exact hxn
        · have : ∀ (l : List (St × List St)) v, alook l p = some v → alook (l ++ [(x, path ++ [x])]) p = some v := fun l => by
            induction l with
            | nil => intro v h; cases h
            | cons q l ih =>
              intro v h
              obtain ⟨b, w⟩ := q
              rw [alook] at h
              rw [List.cons_append, alook]
              split at h
              · rename_i z; rw [if_pos z]; exact h
              · rename_i z; rw [if_neg z]; exact ih v h
          exact this F path g5
        · intro z hz
          rcases List.mem_append.mp hz with hz | hz
          · exact g6 z hz
          · simp at hz; subst hz; simp [hpl])
    obtain ⟨j1, j2, j3, j4, j5, j6, _⟩ := k1
    simp only [List.foldl_nil] at j1 j2 j3 j4 j5 j6
    refine ⟨(F2, k + 1, .sh (eS p), v), ?_, ⟨?_, fun q hq => ?_⟩, ?_⟩
    · have hpop : popR (.sh (.int 0)) (some (.ow (eL eS (L.drop k)))) = some (eS p, eL eS (L.drop (k + 1))) := by
        rw [hdrop]
        show (if (0 : Int) ≤ 0 ∧ (0 : Int) < (((p :: L.drop (k + 1)).map eS).length : Int) ∧ ((p :: L.drop (k + 1)).map eS).length ≤ lim then _ else none) = _
        rw [if_pos ⟨by decide, by simp, by simp [lim_eq]; omega⟩]
        rfl
      rw [hL] at k2
      simp [hL, hpop, r_next_states hn hpn]
      exact k2
    · show InvK (nxtT n S) a (F2.map (·.1)) (k + 1)
      rw [j1]
      exact hs.step hp
    · have := j6 q hq
      show q.2.length ≤ k + 1 + 1
      omega
    · show 16 - (k + 1) < 16 - k
      omega
end
end VL

set_option linter.all false
set_option maxRecDepth 100000
set_option maxHeartbeats 1000000
/-! Q7: what steps lead to; energies that lower. -/
namespace VL
open PySem PySem.W PyProof.Rows
variable {n : Nat} {S : List Tn}
theorem r_led (h1 : 1 ≤ n) (hn : n ≤ 4) {a : St} (ha : a ∈ allSt n) : ∃ L : List St, m_led.run [netOf n S, eS a] = .ok (eT eS L, []) ∧ L.length ≤ 16 ∧ ∀ s, s ∈ L ↔ Led n S a s := by
  obtain ⟨F, g1, g2, g3⟩ := lines_ex (S := S) hn ha
  have hks : ∀ x ∈ F.map (·.1), x ∈ allSt n := fun x hx => Led.st ha ((g3 x).mp hx)
  have h16 := lot_small hn g2 hks
  have hso := sortedB_eD (ek := eS) (ev := eL eS) (l := F) (sorted_tups (e := PyData.int) (by decide) (F.map (·.1)) (by rw [lim_eq]; omega) fun x hx => st_ne h1 (hks x hx))
  refine ⟨sortT (lexB ltI) (F.map (·.1)), ?_, by rw [length_sortT]; exact h16, fun x => mem_sortT.trans (g3 x)⟩
  rw [m_led, run_eq rfl]
  simp [b_led, r_need_net_state hn ha, g1, hso, fzOk_eD]
theorem r_rests_by (h1 : 1 ≤ n) (hn : n ≤ 4) {a : St} (ha : a ∈ allSt n) : ∃ L : List St, m_rests_by.run [netOf n S, eS a] = .ok (eT eS L, []) ∧ L.length ≤ 16 ∧ ∀ s, s ∈ L ↔ Led n S a s ∧ wT n S s = [] := by
  obtain ⟨F, g1, g2, g3⟩ := lines_ex (S := S) hn ha
  have hks : ∀ x ∈ F.map (·.1), x ∈ allSt n := fun x hx => Led.st ha ((g3 x).mp hx)
  have h16 := lot_small hn g2 hks
  have hso := sortedB_eD (ek := eS) (ev := eL eS) (l := F) (sorted_tups (e := PyData.int) (by decide) (F.map (·.1)) (by rw [lim_eq]; omega) fun x hx => st_ne h1 (hks x hx))
  refine ⟨(sortT (lexB ltI) (F.map (·.1))).filter fun s => decide (wT n S s = []), ?_, Nat.le_trans (List.length_filter_le _ _) (by rw [length_sortT]; exact h16), fun x => ?_⟩
  · rw [m_rests_by, run_eq rfl]
    simp [b_rests_by]
    refine bind_of _ (comp_enc (ρ0 := [.sh (netOf n S), .sh (eS a), .un]) eS eS (sortT (lexB ltI) (F.map (·.1))) (fun s => decide (wT n S s = [])) id ?_ rfl rfl rfl (by rw [lim_eq, length_sortT]; omega) fun s hs => ⟨_, rfl, ?_, fun _ => rfl, rfl⟩) ?_
    · simp [g1, hso, fzOk_eD]
    · simp [r_is_rest_by hn (hks s (mem_sortT.mp hs))]
    · simp
  · rw [List.mem_filter, mem_sortT, g3]
    simp
theorem r_rests_led (h1 : 1 ≤ n) (hn : n ≤ 4) {a : St} (ha : a ∈ allSt n) : ∃ L : List St, m_rests_led.run [netOf n S, eS a] = .ok (eT eS L, []) ∧ m_rests_by.run [netOf n S, eS a] = .ok (eT eS L, []) ∧ L.length ≤ 16 ∧ ∀ s, s ∈ L ↔ Led n S a s ∧ wT n S s = [] := by
  obtain ⟨L, g1, g2, g3⟩ := r_rests_by (S := S) h1 hn ha
  refine ⟨L, ?_, g1, g2, g3⟩
  rw [m_rests_led, run_eq rfl]
  simp [b_rests_led, r_need_net_state hn ha, g1]
def stepsT (n : Nat) (S : List Tn) : List Tn := (allSt n).flatMap fun s => (wT n S s).map fun i => (s, i)
theorem mem_stepsT {t : Tn} (h : t ∈ stepsT n S) : t ∈ turnsT n ∧ t ∈ S := by
  unfold stepsT at h
  obtain ⟨s, hs, h⟩ := List.mem_flatMap.mp h
  obtain ⟨i, hi, rfl⟩ := List.mem_map.mp h
  obtain ⟨hr, hS⟩ := mem_wT.mp hi
  exact ⟨mem_turnsT.mpr ⟨hs, hr⟩, hS⟩
theorem stepsT_small (hn : n ≤ 4) : (stepsT n S).length ≤ 64 := by
  have : ∀ l : List St, (l.flatMap fun s => (wT n S s).map fun i => (s, i)).length ≤ l.length * 4 := fun l => by
    induction l with
    | nil => simp
    | cons a l ih =>
      have := wT_small (S := S) hn (s := a)
      rw [List.flatMap_cons, List.length_append, List.length_map, List.length_cons]
      omega
  have := this (allSt n)
  have := small_allSt hn
  unfold stepsT
  omega
theorem r_steps_by (hn : n ≤ 4) : m_steps_by.run [netOf n S] = .ok (eL eQ (stepsT n S), []) := by
  have h16 := small_allSt hn
  rw [m_steps_by, run_eq rfl]
  simp [b_steps_by]
  refine bind_of _ (comp2_map (ρ0 := [.sh (netOf n S), .un, .un]) eS PyData.int eQ (allSt n) (fun s => wT n S s) (fun s i => (s, i)) ?_ rfl rfl rfl 4 ?_ ?_ ?_) ?_
  · simp [r_Net_switches, prop_sw, r_all_states n hn]
  · intro s _
    exact wT_small hn
  · rw [lim_eq]; omega
  · intro s hs
    refine ⟨_, rfl, rfl, ?_, _, rfl, rfl, fun i hi => ⟨_, rfl, ?_, rfl⟩⟩
    · simp [r_wants_by hn hs]
    · simp [lim_eq]
      rfl
  · simp [stepsT]
theorem r_lowers_by (hn : n ≤ 4) {E : En} (hE : EOk n E) (hlow : ∀ t ∈ S, t ∈ turnsT n → chgT E t < 0) : m_lowers_by.run [netOf n S, eE E] = .ok (.bool true, []) := by
  have := stepsT_small (S := S) hn
  rw [m_lowers_by, run_eq rfl]
  simp [b_lowers_by]
  refine bind_of _ (comp_map (ρ0 := [.sh (netOf n S), .sh (eE E), .un]) eQ PyData.bool (stepsT n S) (fun _ => true) ?_ rfl rfl rfl (by rw [lim_eq]; omega) fun t ht => ⟨_, rfl, ?_, rfl⟩) ?_
  · simp [r_steps_by hn]
  · obtain ⟨q1, q2⟩ := mem_stepsT ht
    simp [r_change_by hn hE q1, hlow t q2 q1]
  · simp
theorem r_need_net_energy {E : En} (hE : EOk n E) : m_need_net_energy.run [netOf n S, eE E] = .ok (.none, []) := by
  rw [m_need_net_energy, run_eq rfl]
  simp [b_need_net_energy, r_need_net, r_Net_switches, prop_sw, r_need_energy hE]
theorem r_need_lowering (hn : n ≤ 4) {E : En} (hE : EOk n E) (hlow : ∀ t ∈ S, t ∈ turnsT n → chgT E t < 0) : m_need_lowering.run [netOf n S, eE E] = .ok (.none, []) := by
  rw [m_need_lowering, run_eq rfl]
  simp [b_need_lowering, r_need_net_energy hE, r_lowers_by hn hE hlow]
theorem r_value_at (h1 : 1 ≤ n) (hn : n ≤ 4) {E : En} (hE : EOk n E) {s : St} (hs : s ∈ allSt n) : m_value_at.run [.int n, eE E, eS s] = .ok (.int (valT E s), []) := by
  have hl := (mem_allSt.mp hs).1
  rw [m_value_at, run_eq rfl]
  simp [b_value_at, r_need_switches_energy h1 hn hE, r_need_state hn hs, r_value_by E s (by rw [hl]; exact hE.val.1) hE.val.2.1 hE.val.2.2]
/-- a net that falls: what is reached, and is least, is a rest -/
theorem rest_ex (hn : n ≤ 4) {E : En} (hlow : ∀ t ∈ S, t ∈ turnsT n → chgT E t < 0) {a : St} (ha : a ∈ allSt n) : ∃ s, Led n S a s ∧ wT n S s = [] ∧ valT E s ≤ valT E a := by
  obtain ⟨F, _, _, g3⟩ := lines_ex (S := S) hn ha
  have ha' : a ∈ F.map (·.1) := (g3 a).mpr .refl
  obtain ⟨s, h1, h2⟩ := min_of (valT E) (F.map (·.1)) (fun e => by rw [e] at ha'; cases ha')
  have hs := (g3 s).mp h1
  refine ⟨s, hs, ?_, h2 a ha'⟩
  cases hw : wT n S s with
  | nil => rfl
  | cons i l =>
    exfalso
    have hi : i ∈ wT n S s := by rw [hw]; simp
    obtain ⟨hr, hS⟩ := mem_wT.mp hi
    have hsn := Led.st ha hs
    have ht : (s, i) ∈ turnsT n := mem_turnsT.mpr ⟨hsn, hr⟩
    have hf := hlow _ hS ht
    rw [chgT_eq] at hf
    have hx : turn s i ∈ nxtT n S s := List.mem_map.mpr ⟨i, hi, rfl⟩
    have := h2 (turn s i) ((g3 _).mpr (.step hs hx))
    simp only at hf
    omega
theorem r_lowest_led (h1 : 1 ≤ n) (hn : n ≤ 4) {E : En} (hE : EOk n E) (hlow : ∀ t ∈ S, t ∈ turnsT n → chgT E t < 0) {a : St} (ha : a ∈ allSt n) : ∃ r, m_lowest_led.run [netOf n S, eE E, eS a] = .ok (eS r, []) ∧ Led n S a r ∧ wT n S r = [] ∧ ∀ s, Led n S a s → wT n S s = [] → valT E r ≤ valT E s := by
  obtain ⟨L, g1, g2, g3⟩ := r_rests_by (S := S) h1 hn ha
  have hln : ∀ s ∈ L, s ∈ allSt n := fun s hs => Led.st ha ((g3 s).mp hs).1
  obtain ⟨s0, q1, q2, _⟩ := rest_ex hn hlow ha
  obtain ⟨b, bs, hL⟩ : ∃ b bs, L = b :: bs := by
    cases e : L with
    | nil =>
      have := (g3 s0).mpr ⟨q1, q2⟩
      rw [e] at this
      cases this
    | cons b bs => exact ⟨_, _, rfl⟩
  have hm := minB_enc (e := eP PyData.int eS) (by decide) (valT E b, b) (bs.map fun s => (valT E s, s))
  have hmem := minT_mem (lexP ltI (lexB ltI)) (bs.map fun s => (valT E s, s)) (valT E b, b)
  have hle := minT_le (lexP ltI (lexB ltI)) (bs.map fun s => (valT E s, s)) (valT E b, b)
  generalize hmn : minT (lexP ltI (lexB ltI)) (valT E b, b) (bs.map fun s => (valT E s, s)) = mn at hm hmem hle
  have eL' : ((valT E b, b) :: bs.map fun s => (valT E s, s)) = L.map fun s => (valT E s, s) := by rw [hL]; rfl
  rw [eL'] at hm hmem hle
  obtain ⟨r, hr, er⟩ := List.mem_map.mp hmem
  have hr' := (g3 r).mp hr
  refine ⟨r, ?_, hr'.1, hr'.2, fun s l w => ?_⟩
  · rw [m_lowest_led, run_eq rfl]
    simp [b_lowest_led, r_need_lowering hn hE hlow, r_Net_switches, prop_sw, r_need_state hn ha]
    refine bind_of _ (comp_map (ρ0 := [.sh (netOf n S), .sh (eE E), .sh (eS a), .un]) eS (eP PyData.int eS) L (fun s => (valT E s, s)) ?_ rfl rfl rfl (by rw [lim_eq]; omega) fun s hs => ⟨_, rfl, ?_, rfl⟩) ?_
    · simp [g1]
    · have hl := (mem_allSt.mp (hln s hs)).1
      simp [r_value_by E s (by rw [hl]; exact hE.val.1) hE.val.2.1 hE.val.2.2, lim_eq]
      rfl
    · simp [hm, ← er]
  · have := hle (valT E s, s) (List.mem_map.mpr ⟨s, (g3 s).mpr ⟨l, w⟩, rfl⟩)
    rw [← er] at this
    unfold lexP at this
    simp only at this
    split at this
    · omega
    · simp [ltI] at this
      exact this
end VL

set_option linter.all false
set_option maxRecDepth 100000
set_option maxHeartbeats 1000000
/-! Q8: the law's draws. -/
namespace VL
open PySem PySem.W PyProof.Rows
theorem rtape_ok {i : Nat} {tp : Bool} {fa : FE} {ρ : Ev} {g c : List Int} (h1 : slotOw i ρ = some (eL .int g)) (h2 : fFz fa ρ = .ok (eL .int c, ρ)) : sRtape i tp fa ρ = .ok (.rt (.ow i) (ρ.set i (.ow (Dtape tp g c 0 0)))) := by
  unfold sRtape
  rw [h1]
  show (fFz fa ρ >>= _) = _
  rw [h2, ok_bind]
  simp only
  rw [h1]
  show (match intsOf (g.map .int), intsOf (c.map .int) with
      | some gs, some c => (pure (Out.rt (.ow i) (ρ.set i (.ow (Dtape tp gs c 0 0)))) : Res Out)
      | _, _ => Res.bad) = _
  rw [intsOf_map, intsOf_map]
  rfl
theorem r_begun (ns : List Int) (hl : ns.length ≤ 63) : ∃ x : Tp, m_law_begun.run [Dscr ns] = .ok (eTp false x, []) ∧ x.g.length ≤ 63 ∧ x.t = 0 := by
  have hit : itemsOf (Dscr ns) = some (ns.map .int) := rfl
  have hp : powD (.int 10) (.int 18) = some (.sh (.int 1000000000000000000)) := powD_nat (k := 18) (by decide) (by decide)
  refine ⟨⟨((ns.filter fun c => !decide ((if c < 0 then -c else c) < 1000000000000000000)).map fun c => (if c < 0 then -c else c) - 1000000000000000000), ns.map fun c => if c < 0 then -c else c, 0, 0⟩, ?_, by rw [List.length_map]; exact Nat.le_trans (List.length_filter_le _ _) hl, rfl⟩
  rw [m_law_begun, run_eq rfl]
  simp [b_law_begun]
  refine bind_of _ (comp_enc (ρ0 := [.sh (Dscr ns), .un, .un]) PyData.int PyData.int ns (fun c => !decide ((if c < 0 then -c else c) < 1000000000000000000)) (fun c => (if c < 0 then -c else c) - 1000000000000000000) ?_ rfl rfl rfl (by rw [lim_eq]; omega) fun c hc => ⟨_, rfl, ?_, fun _ => ?_, rfl⟩) ?_
  · simp [hit]
  · simp [hp]
  · simp [hp]
  · simp
    refine bind_of _ (rtape_ok (c := ns.map fun c => if c < 0 then -c else c) rfl ?_) ?_
    · rw [fFz_eq]
      refine bind_of _ (comp_map (ρ0 := [.sh (Dscr ns), _, .un]) PyData.int PyData.int ns (fun c => if c < 0 then -c else c) ?_ rfl rfl rfl (by rw [lim_eq]; omega) fun c hc => ⟨_, rfl, ?_, rfl⟩) ?_
      · simp [hit]
      · simp
      · simp
    · simp
      rfl
theorem ex_bind2 {α β S V : Type} {x : Res α} {f : α → Res β} {r : V → Res β} {P : S → Prop} {g : S → α} (h : ∃ s, P s ∧ x = .ok (g s)) (k : ∀ s, P s → ∃ v, f (g s) = r v) : ∃ v, (x >>= f) = r v := by
  obtain ⟨s, h1, h2⟩ := h
  obtain ⟨v, h3⟩ := k s h1
  exact ⟨v, by rw [h2, ok_bind, h3]⟩
/-- a number mixed of all cells -/
theorem r_blended (x : Tp) (N : Nat) (h : TpOk x (N + 1)) : ∃ v, m_law_blended.run [eTp false x] = .ok (.int v, [eTp false { x with t := x.t + 1 }]) := by
  obtain ⟨h1, h2, h3⟩ := h
  rw [m_law_blended, run_eq rfl]
  simp [b_law_blended, lim_eq]
  refine ex_bind2 (for_inv PyData.int (fun s : Int × SV × SV × SV => [.ow (eTp false { x with t := x.t + 1 }), s.2.1, .sh (.int (x.t + 1)), .sh (.int s.1), s.2.2.1, s.2.2.2]) [2147482063, 2147482021, 2147481997] (fun xs s => ∀ p ∈ xs, 2147481000 ≤ p ∧ p < 2147490000) (0, .un, .un, .un) (by decide) ?_) ?_
  · intro p xs s hp
    obtain ⟨f, v1, v4, v5⟩ := s
    obtain ⟨p1, p2⟩ := hp p (by simp)
    have hfd : fdivD (.int p) (.int 71) = some (.sh (.int (p.fdiv 71))) := fdivD_pos (by decide) (by decide)
    have hfd2 : p.fdiv 71 = p / 71 := Int.fdiv_eq_ediv_of_nonneg _ (by decide)
    obtain ⟨⟨b, v⟩, ⟨k0, k1⟩, k2⟩ := for_inv (t := .nm 5) (fb := sSet 4 false (fBin (fBi BI.int (oCons (fBin (fBin (fBin (fVar 4) (fC (PyData.int 69621)) mulD) (fVar 5) addD) (fVar 2) addD) oNil)) (fVar 1) modD)) PyData.int
      (fun s : Int × SV => [.ow (eTp false { x with t := x.t + 1 }), .sh (.int p), .sh (.int (x.t + 1)), .sh (.int f), .sh (.int s.1), s.2]) x.c (fun _ s => 0 ≤ s.1 ∧ s.1 < 1000000000000) (40127 * (x.t + 1) + p.fdiv 71, v5) ⟨by simp only; omega, by simp only; omega⟩ (fun c cs s hs => by
      obtain ⟨b, v⟩ := s
      refine ⟨_, ((b * 69621 + c + (x.t + 1)) % p, .sh (.int c)), rfl, .inl ?_, ?_⟩
      · simp [modD_pos (show 0 < p by omega)]
      · have q1 := Int.emod_nonneg (b * 69621 + c + (x.t + 1)) (show p ≠ 0 by omega)
        have q2 := Int.emod_lt_of_pos (b * 69621 + c + (x.t + 1)) (show 0 < p by omega)
        exact ⟨q1, by simp only; omega⟩)
    simp only at k0 k1
    refine ⟨_, (f * 2147483647 + b ^ 5 % p, .sh (.int p), .sh (.int b), v), rfl, .inl ?_, fun z hz => hp z (by simp [hz])⟩
    have hpw := powD_nat (i := b) (k := 5) (by decide) (by omega)
    simp at hpw
    simp [hfd]
    refine bind_of _ k2 ?_
    simp [hpw, modD_pos (show 0 < p by omega)]
  · intro s _
    simp
/-- a draw -/
theorem r_draw (x : Tp) (N : Nat) (h : TpOk x (N + 1)) (size : Int) (s1 : 0 < size) (s2 : size ≤ 1000000000) : ∃ r : Int × Tp, m_law_draw.run [eTp false x, .int size] = .ok (.int r.1, [eTp false r.2]) ∧ 0 ≤ r.1 ∧ r.1 < size ∧ TpOk r.2 N := by
  have hm : ∀ i, modD (.int i) (.int size) = some (.sh (.int (i % size))) := fun i => modD_pos s1
  have hd : ∀ i, fdivD (.int i) (.int size) = some (.sh (.int (i.fdiv size))) := fun i => fdivD_pos s1 (by omega)
  have e1 : ∀ i : Int, 0 ≤ i % size := fun i => Int.emod_nonneg _ (by omega)
  have e2 : ∀ i : Int, i % size < size := fun i => Int.emod_lt_of_pos _ s1
  rw [m_law_draw, run_eq rfl]
  by_cases q : x.l = 0
  · cases hg : x.g with
    | nil =>
      obtain ⟨v, hv⟩ := r_blended x N h
      refine ⟨(v % size, ⟨x.g, x.c, v.fdiv size, x.t + 1⟩), ?_, e1 _, e2 _, h.1, by have := h.2.1; show 0 ≤ x.t + 1; omega, by have := h.2.2; show x.t + 1 + (N : Int) ≤ 1000000; omega⟩
      simp [b_law_draw, q, hg, hv, hm, hd]
      rfl
    | cons a g =>
      have hgl : g.length < lim := by have := h.1; rw [hg] at this; simp at this; rw [lim_eq]; omega
      refine ⟨(a % size, ⟨g, x.c, a.fdiv size, x.t⟩), ?_, e1 _, e2 _, by have := h.1; rw [hg] at this; simp at this; show g.length ≤ 63; omega, h.2.1, by have := h.2.2; show x.t + (N : Int) ≤ 1000000; omega⟩
      simp [b_law_draw, q, hg, hgl, hm, hd]
      rfl
  · refine ⟨(x.l % size, ⟨x.g, x.c, x.l.fdiv size, x.t⟩), ?_, e1 _, e2 _, h.mono (by omega)⟩
    simp [b_law_draw, q, hm, hd]
    rfl
end VL

set_option linter.all false
set_option maxRecDepth 100000
set_option maxHeartbeats 1000000
/-! Q9: the law's own nets and energies. -/
namespace VL
open PySem PySem.W PyProof.Rows
theorem ex_bind3 {α β V : Type} {x : Res α} {f : α → Res β} {r : V → Res β} {Q : V → Prop} {P : α → Prop} (h : ∃ a, x = .ok a ∧ P a) (k : ∀ a, P a → ∃ v, f a = r v ∧ Q v) : ∃ v, (x >>= f) = r v ∧ Q v := by
  obtain ⟨a, h1, h2⟩ := h
  obtain ⟨v, h3, h4⟩ := k a h2
  exact ⟨v, by rw [h1, ok_bind, h3], h4⟩
/-- several things in a drawn sequence -/
theorem r_mixed (x : Tp) (N : Nat) (L : List St) (hl : L.length ≤ 64) (h : TpOk x (L.length + N)) : ∃ r : List St × Tp, m_law_mixed.run [eTp false x, eL eS L] = .ok (eL eS r.1, [eTp false r.2]) ∧ (r.1.length = L.length ∧ ∀ s ∈ r.1, s ∈ L) ∧ TpOk r.2 N := by
  have key := whl_inv (c := fTest (ev (tb [m_law_draw]) (.cmp .ne (.var 2) (.lst .nil)))) (fb := exB (tb [m_law_draw]) (.cons (.app 3 (.pop 2 (.call 0 (.cons (.var 0) (.cons (.bi .len (.cons (.var 2) .nil)) .nil)) []))) .nil))
    (fun s : List St × List St × Tp => [.ow (eTp false s.2.2), .sh (eL eS L), .ow (eL eS s.1), .ow (eL eS s.2.1)]) (fun s => TpOk s.2.2 (s.1.length + N) ∧ s.1.length + s.2.1.length = L.length ∧ (∀ z ∈ s.1, z ∈ L) ∧ ∀ z ∈ s.2.1, z ∈ L) (fun s => s.1.length) (fun s => decide (s.1 ≠ [])) ?_ ?_ fuel (L, [], x) ⟨h, by simp, fun z hz => hz, by simp⟩ (by have := fuel_pos; show L.length < fuel; omega)
  · obtain ⟨⟨l, f, y⟩, ⟨g1, g2, _, g4⟩, g5, g6⟩ := key
    have hl0 : l = [] := by simpa using g5
    subst hl0
    refine ⟨(f, y), ?_, ⟨by simpa using g2, g4⟩, by simpa using g1⟩
    rw [m_law_mixed, run_eq rfl]
    simp [b_law_mixed]
    refine bind_of _ g6 ?_
    simp
  · intro s hs
    simp [lim_eq, eqD_lst0 (e := eS) (by decide)]
  · intro s hs hc
    obtain ⟨l, f, y⟩ := s
    obtain ⟨g1, g2, g3, g4⟩ := hs
    have hne : l ≠ [] := by simpa using hc
    have hpos : 0 < l.length := List.length_pos_iff.mpr hne
    have g2 : l.length + f.length = L.length := g2
    obtain ⟨⟨v, y2⟩, d1, d2, d3, d4⟩ := r_draw y (l.length - 1 + N) (g1.mono (by show l.length - 1 + N + 1 ≤ l.length + N; omega)) l.length (by omega) (by omega)
    simp only at d1 d2 d3 d4
    have hk : v.toNat < l.length := by omega
    have hpop := popR_eL (e := eS) d2 (List.getElem?_eq_getElem hk) (by rw [lim_eq]; omega)
    have happ := appD_eL (e := eS) (l := f) (a := l[v.toNat]) (by rw [lim_eq]; omega)
    refine ⟨(l.eraseIdx v.toNat, f ++ [l[v.toNat]], y2), ?_, ⟨?_, ?_, ?_, ?_⟩, ?_⟩
    · simp [d1, hpop, happ]
    · show TpOk y2 ((l.eraseIdx v.toNat).length + N)
      rw [List.length_eraseIdx_of_lt hk]
      exact d4
    · show (l.eraseIdx v.toNat).length + (f ++ [l[v.toNat]]).length = L.length
      rw [List.length_eraseIdx_of_lt hk, List.length_append, List.length_singleton]
      omega
    · intro z hz
      exact g3 z (List.mem_of_mem_eraseIdx hz)
    · intro z hz
      rcases List.mem_append.mp hz with hz | hz
      · exact g4 z hz
      · simp at hz
        subst hz
        exact g3 _ (List.getElem_mem hk)
    · show (l.eraseIdx v.toNat).length < l.length
      rw [List.length_eraseIdx_of_lt hk]
      omega
/-- some of several things -/
theorem r_some (x : Tp) (N : Nat) (L : List Tn) (hl : L.length ≤ 64) (h : TpOk x (L.length + N + 2)) : ∃ r : List Tn × Tp, m_law_some.run [eTp false x, eL eQ L] = .ok (eL eQ r.1, [eTp false r.2]) ∧ List.Sublist r.1 L ∧ TpOk r.2 N := by
  obtain ⟨⟨v1, x1⟩, a1, a2, a3, a4⟩ := r_draw x (L.length + N + 1) h 4 (by decide) (by decide)
  obtain ⟨⟨v2, x2⟩, b1, b2, b3, b4⟩ := r_draw x1 (L.length + N) a4 2 (by decide) (by decide)
  simp only at a1 a2 a3 b1 b2 b3 b4
  obtain ⟨y, ys, c1, c2, c3⟩ := comp_draw (own := [4]) (t := .nm 4) (fc := fTest (fBin (fBin (fCall m_law_draw (mOwn (fVar 0) (mCons (fVar 2) oNil)) []) (fC (PyData.int 0)) (cmpR .eq)) (fVar 3) (cmpR .eq))) (fe := fVar 4) eQ eQ
    (fun y : Tp => [.ow (eTp false y), .sh (eL eQ L), .sh (.int (2 + v1)), .sh (.bool (decide (v2 = 0))), .un]) L (fun xs y => TpOk y (xs.length + N)) x2 [] b4 (by rw [lim_eq]; simp; omega) (fun t ts s hp => by
    obtain ⟨⟨v, s2⟩, d1, d2, d3, d4⟩ := r_draw s (ts.length + N) (hp.mono (by simp; omega)) (2 + v1) (by omega) (by omega)
    simp only at d1 d2 d3 d4
    refine ⟨_, decide (decide (v = 0) = decide (v2 = 0)), [.ow (eTp false s2), .sh (eL eQ L), .sh (.int (2 + v1)), .sh (.bool (decide (v2 = 0))), .sh (eQ t)], s2, rfl, ?_, fun _ => rfl, rfl, d4⟩
    simp [d1])
  refine ⟨(ys, y), ?_, c2, by simpa using c1⟩
  have hcomp : fComp [4] (.nm 4) (iSeq (fVar 1)) (fTest (fBin (fBin (fCall m_law_draw (mOwn (fVar 0) (mCons (fVar 2) oNil)) []) (fC (PyData.int 0)) (cmpR .eq)) (fVar 3) (cmpR .eq))) (fVar 4) [.ow (eTp false x2), .sh (eL eQ L), .sh (.int (2 + v1)), .sh (.bool (decide (v2 = 0))), .un] = .ok (.fr (eL eQ ys), [.ow (eTp false y), .sh (eL eQ L), .sh (.int (2 + v1)), .sh (.bool (decide (v2 = 0))), .un]) := by
    unfold fComp
    simp only [iSeq_eq, fFz_eq, fVar_eq]
    simp only [List.getElem?_cons_succ, List.getElem?_cons_zero, ok_bind, fz_sh, lift_some, itemsOf_eL, pure_ok]
    rw [if_pos (by rfl)]
    refine bind_of _ (show Res.noEx _ = _ from by
      show (loopC _ (L.map eQ) _ []).noEx = _
      exact congrArg Res.noEx c3) ?_
    simp [eL]
    rfl
  rw [m_law_some, run_eq rfl]
  simp [b_law_some, a1, b1]
  refine bind_of _ hcomp ?_
  simp
/-! ### states, turns, values -/
theorem r_law_states {n : Nat} (hn : n ≤ 4) : m_law_states.run [.int n] = .ok (eL eS (allSt n), []) := by
  have h1 : (n : Int) ≤ 1000000 := by omega
  have h2 : (-1000000 : Int) ≤ n := by omega
  rw [m_law_states, run_eq rfl]
  simp [b_law_states, lim_eq, h1, h2]
  refine bind_ex (for_inv PyData.int (fun s : Nat × SV × SV × SV => [.sh (.int n), .sh (eL eS (allSt s.1)), s.2.1, s.2.2.1, s.2.2.2]) (rngI n) (fun xs s => s.1 + xs.length = n) (0, .un, .un, .un) (by simp) ?_) ?_
  · intro x xs s hp
    obtain ⟨k, v2, v3, v4⟩ := s
    simp at hp
    have hk : (allSt k).length ≤ 16 := small_allSt (by omega)
    obtain ⟨⟨acc, w⟩, k1, k2⟩ := for_inv (t := .nm 4) (fb := sSet 3 false (fBin (fVar 3) (fLst (fCons (fBin (fVar 4) (fTup (fCons (fC (PyData.int 0)) fNil)) addD) (fCons (fBin (fVar 4) (fTup (fCons (fC (PyData.int 1)) fNil)) addD) fNil))) addD)) eS
      (fun s : List St × SV => [.sh (.int n), .sh (eL eS (allSt k)), .sh (.int x), .sh (eL eS s.1), s.2]) (allSt k) (fun xs s => s.1 ++ (xs.flatMap fun s => [s ++ [0], s ++ [1]]) = allSt (k + 1) ∧ (∀ u ∈ xs, u ∈ allSt k) ∧ s.1.length + 2 * xs.length ≤ 32) ([], v4) ⟨by simp [allSt], fun u hu => hu, by simp; omega⟩ (fun u us st ⟨g1, g2, g3⟩ => by
      obtain ⟨acc, w⟩ := st
      have hul : u.length ≤ 16 := by have := (mem_allSt.mp (g2 u (by simp))).1; omega
      have e0 : addD (eS u) (.tuple [.int 0]) = some (.sh (eS (u ++ [0]))) := addD_eT (e := PyData.int) (l := u) (m := [0]) (by rw [lim_eq]; simp; omega)
      have e1 : addD (eS u) (.tuple [.int 1]) = some (.sh (eS (u ++ [1]))) := addD_eT (e := PyData.int) (l := u) (m := [1]) (by rw [lim_eq]; simp; omega)
      have g3 : acc.length + 2 * (us.length + 1) ≤ 32 := by simpa using g3
      have e2 : addD (eL eS acc) (.list [eS (u ++ [0]), eS (u ++ [1])]) = some (.fr (eL eS (acc ++ [u ++ [0], u ++ [1]]))) := addD_eL (e := eS) (l := acc) (m := [u ++ [0], u ++ [1]]) (by rw [lim_eq]; simp; omega)
      refine ⟨_, (acc ++ [u ++ [0], u ++ [1]], .sh (eS u)), rfl, .inl ?_, ?_, fun z hz => g2 z (by simp [hz]), by simp; omega⟩
      · simp [lim_eq, e0, e1, e2]
      · rw [← g1]
        simp)
    have k1 : acc = allSt (k + 1) := by simpa using k1.1
    refine ⟨_, (k + 1, .sh (.int x), .sh (eL eS acc), w), rfl, .inl ?_, by simp; omega⟩
    simp [lim_eq]
    refine bind_of _ k2 ?_
    simp [k1]
  · intro s hp
    simp at hp
    simp [hp]
theorem r_law_turned {s : St} {i : Int} (h0 : 0 ≤ i) (hi : i < s.length) (hl : s.length ≤ 16) : m_law_turned.run [eS s, .int i] = .ok (eS (turn s i), []) := by
  have h2 : i.natAbs ≤ 1000000 := by omega
  have h3 : (i + 1).natAbs ≤ 1000000 := by omega
  have h4 : (i + 1).toNat = i.toNat + 1 := by omega
  have e1 : addD (eS (s.take i.toNat)) (.tuple [.int (1 - s.getD i.toNat 0)]) = some (.sh (eS (s.take i.toNat ++ [1 - s.getD i.toNat 0]))) := addD_eT (e := PyData.int) (l := s.take i.toNat) (m := [1 - s.getD i.toNat 0]) (by rw [lim_eq]; simp; omega)
  have e2 : addD (eS (s.take i.toNat ++ [1 - s.getD i.toNat 0])) (eS (s.drop (i.toNat + 1))) = some (.sh (eS (turn s i))) := addD_eT (e := PyData.int) (by rw [lim_eq]; simp; omega)
  rw [m_law_turned, run_eq rfl]
  simp at e1 e2
  simp [b_law_turned, h2, h3, lim_eq, cut_to h0, cut_from (show 0 ≤ i + 1 by omega), ixD_tup h0 (getD_of h0 hi), h4, e1, e2]
theorem r_law_turns {n : Nat} (hn : n ≤ 4) : m_law_turns.run [.int n] = .ok (eL eQ (turnsT n), []) := by
  have h1 : (n : Int) ≤ 1000000 := by omega
  have h2 : (-1000000 : Int) ≤ n := by omega
  have h16 := small_allSt hn
  rw [m_law_turns, run_eq rfl]
  simp [b_law_turns, lim_eq, r_law_states hn]
  refine bind_ex (for_inv eS (fun s : List Tn × SV => [.sh (.int n), .sh (eL eQ s.1), s.2, .un]) (allSt n) (fun xs s => s.1 ++ (xs.flatMap fun s => (rngI n).map fun i => (s, i)) = turnsT n ∧ (∀ d, s.2 ≠ .ow d) ∧ s.1.length + 4 * xs.length ≤ 64) ([], .un) ⟨by simp [turnsT], by simp, by simp; omega⟩ ?_) ?_
  · intro s xs st ⟨g1, g2, g3⟩
    obtain ⟨acc, v⟩ := st
    have g3 : acc.length + 4 * (xs.length + 1) ≤ 64 := by simpa using g3
    have e2 := addD_eL (e := eQ) (l := acc) (m := (rngI n).map fun i => (s, i)) (by rw [lim_eq]; simp; omega)
    refine ⟨_, (acc ++ (rngI n).map fun i => (s, i), .sh (eS s)), rfl, .inl ?_, ?_, by simp, by simp; omega⟩
    · simp
      refine bind_of _ (comp_map (ρ0 := [.sh (.int n), .sh (eL eQ acc), .sh (eS s), .un]) PyData.int eQ (rngI n) (fun i => (s, i)) ?_ rfl rfl rfl (by rw [lim_eq]; simp; omega) fun i hi => ⟨_, rfl, ?_, rfl⟩) ?_
      · simp [lim_eq, h1, h2]
      · simp [lim_eq]
        rfl
      · simp [e2]
    · rw [← g1]
      simp
  · intro st ⟨g1, _⟩
    obtain ⟨acc, v⟩ := st
    have g1 : acc = turnsT n := by simpa using g1
    simp [g1]
theorem sum_filter (E : En) (s : St) (h : ∀ q ∈ E, ∀ i ∈ q.1, s.getD i.toNat 0 = 0 ∨ s.getD i.toNat 0 = 1) : ((E.filter fun q => decide ((q.1.filter fun i => decide (s.getD i.toNat 0 = 0)) = [])).map (·.2)).sum = valT E s := by
  unfold valT
  induction E with
  | nil => rfl
  | cons q E ih =>
    have ih := ih fun q hq => h q (by simp [hq])
    have hq := h q (by simp)
    rw [List.filter_cons, List.map_cons, List.sum_cons, ← ih]
    by_cases z : (q.1.filter fun i => decide (s.getD i.toNat 0 = 0)) = []
    · have hp : prodT q.1 s = 1 := by
        unfold prodT
        rw [if_pos]
        refine List.all_eq_true.mpr fun i hi => ?_
        rw [List.filter_eq_nil_iff] at z
        have := z i hi
        simp only [decide_eq_true_eq] at this ⊢
        rcases hq i hi with y | y
        · exact absurd y this
        · exact y
      rw [decide_eq_true z]
      simp [hp]
    · have hp : prodT q.1 s = 0 := by
        unfold prodT
        rw [if_neg]
        intro w
        refine z ?_
        rw [List.filter_eq_nil_iff]
        intro i hi
        have := List.all_eq_true.mp w i hi
        simp only [decide_eq_true_eq] at this ⊢
        omega
      rw [decide_eq_false z]
      simp [hp]
theorem r_law_value {n : Nat} (hn : n ≤ 4) {E : En} (hE : EOk n E) {s : St} (hs : s ∈ allSt n) : m_law_value.run [eE E, eS s] = .ok (.int (valT E s), []) := by
  obtain ⟨e1, e2, e3⟩ := hE.val
  obtain ⟨l1, l2⟩ := mem_allSt.mp hs
  rw [m_law_value, run_eq rfl]
  simp [b_law_value]
  refine bind_of _ (comp_enc (ρ0 := [.sh (eE E), .sh (eS s), .un, .un, .un]) eQ PyData.int E (fun q => decide ((q.1.filter fun i => decide (s.getD i.toNat 0 = 0)) = [])) (·.2) (by simp) rfl rfl rfl (by rw [lim_eq]; omega) fun q hq => ⟨_, rfl, ?_, fun _ => rfl, rfl⟩) ?_
  · simp
    refine bind_of _ (comp_enc (ρ0 := [.sh (eE E), .sh (eS s), .sh (eS q.1), .sh (.int q.2), .un]) PyData.int PyData.int q.1 (fun i => decide (s.getD i.toNat 0 = 0)) id (by simp) rfl rfl rfl (by have := e2 q hq; rw [lim_eq]; omega) fun i hi => ⟨_, rfl, ?_, fun _ => rfl, rfl⟩) ?_
    · have := e1 q hq i hi
      have hix := ixD_tup (e := PyData.int) this.1 (getD_of this.1 (show i < s.length by omega))
      simp at hix
      simp [hix]
    · simp [lim_eq, eqD_lst0 (e := PyData.int) (by decide)]
  · have hsum := sum_filter E s fun q hq i hi => l2 _ (List.mem_of_getElem? (getD_of (e1 q hq i hi).1 (show i < s.length by rw [l1]; exact (e1 q hq i hi).2)))
    rw [← hsum]
    simp
theorem r_law_change {n : Nat} (hn : n ≤ 4) {E : En} (hE : EOk n E) {t : Tn} (ht : t ∈ turnsT n) : m_law_change.run [eE E, eQ t] = .ok (.int (chgT E t), []) := by
  obtain ⟨h1, h2, h3⟩ := mem_turnsT.mp ht
  have hl := (mem_allSt.mp h1).1
  rw [m_law_change, run_eq rfl]
  simp [b_law_change, r_law_turned h2 (show t.2 < t.1.length by omega) (by omega), r_law_value hn hE h1, r_law_value hn hE (turn_mem h1 h2 h3), chgT_eq]
theorem r_law_down {n : Nat} (hn : n ≤ 4) {E : En} (hE : EOk n E) : m_law_down.run [.int n, eE E] = .ok (eL eQ (downT n E), []) := by
  have := turnsT_small hn
  rw [m_law_down, run_eq rfl]
  simp [b_law_down]
  refine bind_of _ (comp_enc (ρ0 := [.sh (.int n), .sh (eE E), .un]) eQ eQ (turnsT n) (fun t => decide (chgT E t < 0)) id ?_ rfl rfl rfl (by rw [lim_eq]; omega) fun t ht => ⟨_, rfl, ?_, fun _ => rfl, rfl⟩) ?_
  · simp [r_law_turns hn]
  · simp [r_law_change hn hE ht]
  · simp [downT]
theorem r_law_net {n : Nat} (h1 : 1 ≤ n) (hn : n ≤ 4) {S : List Tn} : m_law_net.run [.int n, eL eQ S] = .ok (netOf n S, []) := by
  have h2 : (n : Int) ≤ 1000000 := by omega
  have h3 : (-1000000 : Int) ≤ n := by omega
  have h16 := small_allSt hn
  have hi := r_Net_init h1 hn (g := gOf S) (fun i hi s hs => gOf_01 hs (mem_rngI.mp hi).1 (mem_rngI.mp hi).2)
  rw [m_law_net, run_eq rfl]
  simp [b_law_net, lim_eq, h2, h3]
  refine bind_ex (for_inv PyData.int (fun s : List St × SV => [.sh (.int n), .sh (eL eQ S), .ow (eL eS s.1), s.2, .un]) (rngI n) (fun xs s => s.1 ++ (xs.map fun i => (allSt n).map (gOf S i)) = ((rngI n).map fun i => (allSt n).map (gOf S i)) ∧ (∀ i ∈ xs, i ∈ rngI n) ∧ ∀ d, s.2 ≠ .ow d) ([], .un) ⟨by simp, fun i hi => hi, by simp⟩ ?_) ?_
  · intro i xs st ⟨g1, g2, _⟩
    obtain ⟨acc, v⟩ := st
    obtain ⟨i0, i1⟩ := mem_rngI.mp (g2 i (by simp))
    have hal : acc.length < 1000000 := by
      have := congrArg List.length g1
      simp at this
      omega
    have happ := appD_eL (e := eS) (l := acc) (a := (allSt n).map (gOf S i)) (by rw [lim_eq]; exact hal)
    refine ⟨_, (acc ++ [(allSt n).map (gOf S i)], .sh (.int i)), rfl, .inl ?_, ?_, fun z hz => g2 z (by simp [hz]), by simp⟩
    · simp
      refine bind_of _ (comp_map (ρ0 := [.sh (.int n), .sh (eL eQ S), .ow (eL eS acc), .sh (.int i), .un]) eS PyData.int (allSt n) (gOf S i) ?_ rfl rfl rfl (by rw [lim_eq]; omega) fun s hs => ⟨_, rfl, ?_, rfl⟩) ?_
      · simp [r_law_states hn]
      · have hix := ixD_tup (e := PyData.int) i0 (getD_of i0 (show i < s.length by rw [(mem_allSt.mp hs).1]; exact i1))
        have e1 := inD_lst (e := eQ) (by decide) (s, i) S
        simp at hix
        by_cases q : (s, i) ∈ S
        · have e1 : inD (eQ (s, i)) (eL eQ S) = some true := by rw [e1]; simp [q]
          have e2 : gOf S i s = 1 - s.getD i.toNat 0 := by unfold gOf; rw [if_pos q]
          rw [e2]
          simp [lim_eq, tup_eQ, e1, hix]
        · have e1 : inD (eQ (s, i)) (eL eQ S) = some false := by rw [e1]; simp [q]
          have e2 : gOf S i s = s.getD i.toNat 0 := by unfold gOf; rw [if_neg q]
          rw [e2]
          simp [lim_eq, tup_eQ, e1, hix]
      · simp [happ]
    · rw [← g1]
      simp
  · intro st ⟨g1, _⟩
    obtain ⟨acc, v⟩ := st
    have g1 : acc = (rngI n).map fun i => (allSt n).map (gOf S i) := by simpa using g1
    simp [g1, hi]
/-! ### asked tuples, energies -/
theorem r_law_asked {n k : Nat} (hn : n ≤ 4) (hk : k ≤ 4) : m_law_asked.run [.int n, .int k] = .ok (eL eS (askT k n), []) := by
  have h1 : (n : Int) ≤ 1000000 := by omega
  have h2 : (-1000000 : Int) ≤ n := by omega
  rw [m_law_asked, run_eq rfl]
  simp [b_law_asked, lim_eq, h1, h2]
  refine bind_ex (for_inv PyData.int (fun s : Nat × SV => [.sh (.int n), .sh (.int k), .sh (eL eS (subsT k s.1)), s.2, .un, .un]) (rngI n) (fun xs s => xs = ((List.range n).drop s.1).map (fun i : Nat => (i : Int)) ∧ s.1 + xs.length = n) (0, .un) ⟨by simp [rngI], by simp⟩ ?_) ?_
  · intro x xs s ⟨g1, g2⟩
    obtain ⟨i, v⟩ := s
    have g2 : i + (xs.length + 1) = n := by simpa using g2
    have hd : (List.range n).drop i = i :: (List.range n).drop (i + 1) := by
      rw [List.drop_eq_getElem_cons (by rw [List.length_range]; omega)]
      simp
    simp only at g1
    rw [hd, List.map_cons] at g1
    injection g1 with g3 g4
    subst g3
    obtain ⟨n1, l1, a1⟩ := subs_ok (k := k) (n := i) hk (by omega)
    have hf : ((subsT k i).filter fun a => decide (a.length < k)).length ≤ 16 := Nat.le_trans (List.length_filter_le _ _) l1
    have e2 := addD_eL (e := eS) (l := subsT k i) (m := ((subsT k i).filter fun a => decide (a.length < k)).map fun a => a ++ [(i : Int)]) (by rw [lim_eq, List.length_map]; omega)
    refine ⟨_, (i + 1, .sh (.int i)), rfl, .inl ?_, g4, by simp; omega⟩
    simp
    refine bind_of _ (comp_enc (ρ0 := [.sh (.int n), .sh (.int k), .sh (eL eS (subsT k i)), .sh (.int i), .un, .un]) eS eS (subsT k i) (fun a => decide (a.length < k)) (fun a => a ++ [(i : Int)]) (by simp) rfl rfl rfl (by rw [lim_eq]; omega) fun a ha => ⟨_, rfl, ?_, fun _ => ?_, rfl⟩) ?_
    · simp
    · have := (a1 a ha).1
      have e1 : addD (eS a) (.tuple [.int i]) = some (.sh (eS (a ++ [(i : Int)]))) := addD_eT (e := PyData.int) (l := a) (m := [(i : Int)]) (by rw [lim_eq]; simp; omega)
      simp [lim_eq, e1]
    · simp [e2, subsT]
  · intro s ⟨_, g2⟩
    obtain ⟨i, v⟩ := s
    have g2 : i = n := by simpa using g2
    subst g2
    obtain ⟨n1, l1, a1⟩ := subs_ok (k := k) (n := i) hk hn
    have hf : ((subsT k i).filter fun a => decide (a ≠ [])).length ≤ 16 := Nat.le_trans (List.length_filter_le _ _) l1
    simp
    refine bind_of _ (comp_map (ρ0 := [.sh (.int i), .sh (.int k), .sh (eL eS (subsT k i)), v, .un, .un]) (eP PyData.int eS) eS (askP k i) (·.2) ?_ rfl rfl rfl ?_ fun a ha => ⟨_, rfl, rfl, rfl⟩) ?_
    · simp
      refine bind_of _ (comp_enc (ρ0 := [.sh (.int i), .sh (.int k), .sh (eL eS (subsT k i)), v, .un, .un]) eS (eP PyData.int eS) (subsT k i) (fun a => decide (a ≠ [])) (fun a => ((a.length : Int), a)) (by simp) rfl rfl rfl (by rw [lim_eq]; omega) fun a ha => ⟨_, rfl, ?_, fun _ => ?_, rfl⟩) ?_
      · simp [lim_eq, eqD_tup0 (e := PyData.int) (by decide)]
      · simp [lim_eq]
        rfl
      · have hso := sortedB_eL (e := eP PyData.int eS) (l := ((subsT k i).filter fun a => decide (a ≠ [])).map fun a => ((a.length : Int), a)) (sorted_prs (by decide) _ (by rw [lim_eq, List.length_map]; omega))
        simp at hso
        simp [hso, askP]
    · unfold askP
      rw [lim_eq, length_sortT, List.length_map]; omega
    · simp [askT]
end VL

set_option linter.all false
set_option maxRecDepth 100000
/-! K6: the plain law: values, steps, heights, lots. -/
namespace VL
open PySem PySem.W PyProof.Rows
section
variable {n : Nat} {E : En}
theorem mem_downT {t : Tn} : t ∈ downT n E ↔ t ∈ turnsT n ∧ valT E (turn t.1 t.2) < valT E t.1 := by
  unfold downT
  rw [List.mem_filter, chgT_eq]
  simp only [decide_eq_true_eq]
  exact ⟨fun h => ⟨h.1, by omega⟩, fun h => ⟨h.1, by omega⟩⟩
theorem mem_tieT {t : Tn} : t ∈ tieT n E ↔ t ∈ turnsT n ∧ valT E (turn t.1 t.2) = valT E t.1 := by
  unfold tieT
  rw [List.mem_filter, chgT_eq]
  simp only [decide_eq_true_eq]
  exact ⟨fun h => ⟨h.1, by omega⟩, fun h => ⟨h.1, by omega⟩⟩
theorem mem_nbs_iff {s x : St} (hs : s ∈ allSt n) : x ∈ nbs s ↔ ∃ i : Int, (0 ≤ i ∧ i < n) ∧ x = turn s i := by
  unfold nbs
  rw [List.mem_map, (mem_allSt.mp hs).1]
  constructor
  · rintro ⟨i, hi, rfl⟩; exact ⟨i, mem_rngI.mp hi, rfl⟩
  · rintro ⟨i, hi, rfl⟩; exact ⟨i, mem_rngI.mpr hi, rfl⟩
/-- no switch wants where no state beside is lower -/
theorem wants_nil {s : St} (hs : s ∈ allSt n) : wT n (downT n E) s = [] ↔ ∀ x ∈ nbs s, valT E s ≤ valT E x := by
  constructor
  · intro h x hx
    obtain ⟨i, hi, rfl⟩ := (mem_nbs_iff hs).mp hx
    refine Classical.byContradiction fun z => ?_
    have : i ∈ wT n (downT n E) s := mem_wT.mpr ⟨hi, mem_downT.mpr ⟨mem_turnsT.mpr ⟨hs, hi⟩, by simp only; omega⟩⟩
    rw [h] at this
    cases this
  · intro h
    cases e : wT n (downT n E) s with
    | nil => rfl
    | cons i l =>
      exfalso
      obtain ⟨hi, hd⟩ := mem_wT.mp (show i ∈ wT n (downT n E) s by rw [e]; simp)
      have h1 := (mem_downT.mp hd).2
      have h2 := h (turn s i) ((mem_nbs_iff hs).mpr ⟨i, hi, rfl⟩)
      simp only at h1
      omega
theorem low_down : ∀ t ∈ downT n E, t ∈ turnsT n → chgT E t < 0 := fun t h _ => by
  rw [chgT_eq]
  have := (mem_downT.mp h).2
  omega
/-- what steps within lead to lies in the valley -/
theorem led_valley {S : List Tn} (hS : ∀ t ∈ S, t ∈ downT n E) {a s : St} (ha : a ∈ allSt n) (h : Led n S a s) : InW (valT E) (valT E a) a s := by
  have key : InW (valT E) (valT E a) a s ∧ s ∈ allSt n := by
    refine h.mem (P := fun s => InW (valT E) (valT E a) a s ∧ s ∈ allSt n) ⟨⟨Int.le_refl _, .refl⟩, ha⟩ fun b c ⟨h1, h2⟩ r => ?_
    unfold nxtT at r
    obtain ⟨i, hi, rfl⟩ := List.mem_map.mp r
    obtain ⟨hr, ht⟩ := mem_wT.mp hi
    have h3 := (mem_downT.mp (hS _ ht)).2
    have h4 := h1.val
    simp only at h3
    exact ⟨⟨h1.1, .step h1.2 ⟨(mem_nbs_iff h2).mpr ⟨i, hr, rfl⟩, by omega⟩⟩, turn_mem h2 hr.1 hr.2⟩
  exact key.1
end
section
variable {n : Nat} {V : St → Int}
theorem hgt_ge (hn : n ≤ 4) {a b : St} (ha : a ∈ allSt n) (hb : b ∈ allSt n) : V a ≤ hgt n V a b := (r_height_by hn ha hb).2.1.1
theorem minT_sub (c : Int) : ∀ (hs : List Int) (h : Int), minT ltI (h - c) (hs.map fun x => x - c) = minT ltI h hs - c
  | [], h => rfl
  | x :: hs, h => by
    unfold minT
    rw [List.map_cons, List.foldl_cons, List.foldl_cons]
    have := minT_sub c hs (if ltI x h = true then x else h)
    unfold minT at this
    rw [← this]
    congr 1
    unfold ltI
    by_cases q : x < h
    · rw [if_pos (by simpa using q), if_pos (by simp; omega)]
    · rw [if_neg (by simpa using q), if_neg (by simp; omega)]
theorem minT_of {h : Int} {hs : List Int} {m : Int} (h1 : m ∈ h :: hs) (h2 : ∀ x ∈ h :: hs, m ≤ x) : minT ltI h hs = m := by
  have a := minT_mem ltI hs h
  have b := minT_le ltI hs h m h1
  have c := h2 _ a
  simp [ltI] at b
  omega
theorem dpt_none {s : St} : dptT n V s = none ↔ ∀ o ∈ allSt n, V s ≤ V o := by
  unfold dptT
  cases e : (lowT n V s).map (hgt n V s) with
  | nil =>
    simp only [true_iff]
    intro o ho
    refine Classical.byContradiction fun z => ?_
    have : o ∈ lowT n V s := mem_lowT.mpr ⟨ho, by omega⟩
    rw [List.map_eq_nil_iff] at e
    rw [e] at this
    cases this
  | cons h hs =>
    simp only [reduceCtorEq, false_iff]
    intro z
    have : hgt n V s (lowT n V s).head! ∈ (lowT n V s).map (hgt n V s) → True := fun _ => trivial
    cases e2 : lowT n V s with
    | nil => rw [e2] at e; cases e
    | cons o os =>
      have := mem_lowT.mp (show o ∈ lowT n V s by rw [e2]; simp)
      have := z o this.1
      omega
theorem dpt_some {s : St} {d : Int} (h : dptT n V s = some d) : ∃ o os, lowT n V s = o :: os ∧ d = minT ltI (hgt n V s o) (os.map (hgt n V s)) - V s := by
  unfold dptT at h
  cases e2 : lowT n V s with
  | nil => rw [e2] at h; cases h
  | cons o os =>
    rw [e2] at h
    exact ⟨o, os, rfl, (Option.some.inj h).symm⟩
theorem dpt_nn (hn : n ≤ 4) {s : St} (hs : s ∈ allSt n) {d : Int} (h : dptT n V s = some d) : 0 ≤ d := by
  obtain ⟨o, os, h1, rfl⟩ := dpt_some h
  have hm := minT_mem ltI (os.map (hgt n V s)) (hgt n V s o)
  have e : hgt n V s o :: os.map (hgt n V s) = (lowT n V s).map (hgt n V s) := by rw [h1]; rfl
  rw [e] at hm
  obtain ⟨p, hp, e2⟩ := List.mem_map.mp hm
  have := hgt_ge (V := V) hn hs (mem_lowT.mp hp).1
  omega
/-- a state beside that is lower: depth 0 -/
theorem dpt_zero (hn : n ≤ 4) {s x : St} (hs : s ∈ allSt n) (hx : x ∈ nbs s) (hv : V x < V s) : dptT n V s = some 0 := by
  have hxn := mem_nbs hs hx
  have hin : InW V (V s) s x := ⟨Int.le_refl _, .step .refl ⟨hx, by omega⟩⟩
  have hh : hgt n V s x = V s := by
    obtain ⟨_, h2, h3⟩ := r_height_by (V := V) hn hs hxn
    have := h3 s hs hin
    have := h2.1
    omega
  have hlow : x ∈ lowT n V s := mem_lowT.mpr ⟨hxn, hv⟩
  cases e : dptT n V s with
  | none =>
    have := dpt_none.mp e x hxn
    omega
  | some d =>
    have h0 := dpt_nn hn hs e
    obtain ⟨o, os, h1, h2⟩ := dpt_some e
    have hl := minT_le ltI (os.map (hgt n V s)) (hgt n V s o) (hgt n V s x) (by
      have e3 : hgt n V s o :: os.map (hgt n V s) = (lowT n V s).map (hgt n V s) := by rw [h1]; rfl
      rw [e3]
      exact List.mem_map.mpr ⟨x, hlow, rfl⟩)
    simp [ltI] at hl
    congr 1
    omega
/-- no state beside as low: the depth is greater than 0 -/
theorem dpt_pos (hn : n ≤ 4) {s : St} (hs : s ∈ allSt n) (h : ∀ x ∈ nbs s, V s < V x) {d : Int} (hd : dptT n V s = some d) : 0 < d := by
  have h0 := dpt_nn hn hs hd
  obtain ⟨o, os, h1, h2⟩ := dpt_some hd
  have hm := minT_mem ltI (os.map (hgt n V s)) (hgt n V s o)
  have e : hgt n V s o :: os.map (hgt n V s) = (lowT n V s).map (hgt n V s) := by rw [h1]; rfl
  rw [e] at hm
  obtain ⟨p, hp, e2⟩ := List.mem_map.mp hm
  obtain ⟨hpn, hpl⟩ := mem_lowT.mp hp
  by_cases q : d = 0
  · exfalso
    have hg : hgt n V s p = V s := by omega
    have hin := (r_height_by (V := V) hn hs hpn).2.1
    rw [hg] at hin
    have : p = s := hin.2.mem (P := fun z => z = s) rfl fun b c hb r => by
      subst hb
      have := h c r.1
      have := r.2
      omega
    rw [this] at hpl
    omega
  · omega
/-! ### lots -/
theorem lvl_head (h1 : 1 ≤ n) (hn : n ≤ 4) {a : St} (ha : a ∈ allSt n) : ∃ h t, lvl n V a = h :: t ∧ InE V a h ∧ ∀ x, InE V a x → lexB ltI x h = false := by
  obtain ⟨_, l2, l3, l4⟩ := r_level_of h1 hn (V := V) ha
  cases e : lvl n V a with
  | nil =>
    have := (l3 a).mpr .refl
    rw [e] at this
    cases this
  | cons h t =>
    refine ⟨h, t, rfl, (l3 h).mp (by rw [e]; simp), fun x hx => ?_⟩
    have := (l3 x).mpr hx
    rw [e] at this l4
    rcases List.mem_cons.mp this with rfl | z
    · exact LtOk.irr _
    · exact (List.pairwise_cons.mp l4).1 x z
theorem bot_mem {s : St} (h : botB n V s = true) : (lvl n V s).head? = some s ∧ ∀ o ∈ lvl n V s, ∀ x ∈ nbs o, V s ≤ V x := by
  unfold botB at h
  rw [Bool.and_eq_true] at h
  exact ⟨of_decide_eq_true h.1, of_decide_eq_true h.2⟩
/-- each of the least states lies in just one bottom, once -/
theorem bot_one (h1 : 1 ≤ n) (hn : n ≤ 4) {a : St} (ha : a ∈ allSt n) (hl : ∀ o ∈ allSt n, V a ≤ V o) : (botT n V).flatten.count a = 1 := by
  obtain ⟨s0, t0, e0, i0, m0⟩ := lvl_head (V := V) h1 hn ha
  have hs0 := i0.st ha
  have hsym := i0.symm hn ha
  obtain ⟨_, l2, l3, l4⟩ := r_level_of h1 hn (V := V) hs0
  obtain ⟨s1, t1, e1, i1, m1⟩ := lvl_head (V := V) h1 hn hs0
  have e01 : s1 = s0 := by
    have q1 := m0 s1 (i0.trans i1)
    have q2 := m1 s0 .refl
    exact LtOk.tri (lt := lexB ltI) _ _ q1 q2
  have hb : botB n V s0 = true := by
    unfold botB
    rw [Bool.and_eq_true]
    refine ⟨decide_eq_true (by rw [e1, e01]; rfl), decide_eq_true fun o ho x hx => ?_⟩
    have := i0.val
    have := hl x (mem_nbs (((l3 o).mp ho).st hs0) hx)
    omega
  have uniq : ∀ s ∈ (allSt n).filter (botB n V), a ∈ lvl n V s → s = s0 := by
    intro s hs hin
    obtain ⟨hs1, hs2⟩ := List.mem_filter.mp hs
    obtain ⟨_, _, k3, _⟩ := r_level_of h1 hn (V := V) hs1
    have isa := (k3 a).mp hin
    have ias := isa.symm hn hs1
    obtain ⟨h, t, e, ih, mh⟩ := lvl_head (V := V) h1 hn hs1
    have := (bot_mem hs2).1
    rw [e] at this
    have e3 : h = s := Option.some.inj this
    subst e3
    have q1 := m0 h ias
    have q2 := mh s0 (isa.trans i0)
    exact LtOk.tri (lt := lexB ltI) _ _ q1 q2
  have hmem : s0 ∈ (allSt n).filter (botB n V) := List.mem_filter.mpr ⟨hs0, hb⟩
  have hnd : ((allSt n).filter (botB n V)).Nodup := (allSt_nodup hn).filter _
  unfold botT
  generalize (allSt n).filter (botB n V) = L at uniq hmem hnd
  have zero : ∀ L : List St, (∀ s ∈ L, a ∉ lvl n V s) → (L.map (lvl n V)).flatten.count a = 0 := fun L => by
    induction L with
    | nil => intro _; rfl
    | cons s L ih =>
      intro h
      rw [List.map_cons, List.flatten_cons, List.count_append, ih fun s hs => h s (by simp [hs]), List.count_eq_zero_of_not_mem (h s (by simp))]
  obtain ⟨L1, L2, rfl⟩ := List.append_of_mem hmem
  rw [List.nodup_append] at hnd
  obtain ⟨_, n2, n3⟩ := hnd
  rw [List.map_append, List.map_cons, List.flatten_append, List.flatten_cons, List.count_append, List.count_append]
  have z1 := zero L1 fun s hs hin => n3 s hs s0 (by simp) (uniq s (by simp [hs]) hin)
  have z2 := zero L2 fun s hs hin => by
    have := uniq s (by simp [hs]) hin
    subst this
    exact (List.nodup_cons.mp n2).1 hs
  have z3 : (lvl n V s0).count a = 1 := by
    have hin : a ∈ lvl n V s0 := (l3 a).mpr hsym
    rw [l2.count, if_pos hin]
  omega
end
end VL

set_option linter.all false
set_option maxRecDepth 100000
set_option maxHeartbeats 2000000
/-! Q10: drawn energies. -/
namespace VL
open PySem PySem.W PyProof.Rows
def bodyE : MB := (.cons (.set 6 false (.bin .sub (.call 1 (.cons (.var 0) (.cons (.int (7)) .nil)) []) (.int (3)))) (.cons (.ite (.cmp .eq (.var 4) (.int (1))) (.cons (.set 6 false (.bin .sub (.call 1 (.cons (.var 0) (.cons (.int (3)) .nil)) []) (.int (1)))) .nil) .nil) (.cons (.ite (.cmp .eq (.var 4) (.int (2))) (.cons (.set 6 false (.bin .add (.bin .mul (.var 6) (.bin .pow (.int (10)) (.int (20)))) (.call 1 (.cons (.var 0) (.cons (.bin .pow (.int (10)) (.int (9))) .nil)) []))) .nil) .nil) (.cons (.ite (.cmp .eq (.var 4) (.int (3))) (.cons (.set 6 false (.ite (.cmp .eq (.call 1 (.cons (.var 0) (.cons (.int (3)) .nil)) []) (.int (0))) (.var 6) (.int (0)))) .nil) .nil) (.cons (.set 5 false (.bin .add (.var 5) (.ite (.cmp .ne (.var 6) (.int (0))) (.lst (.cons (.tup (.cons (.var 3) (.cons (.var 6) .nil))) .nil)) (.lst .nil)))) .nil)))))
def addE (acc : En) (a : St) (m : Int) : En := if m ≠ 0 then acc ++ [(a, m)] else acc
theorem energy_turn {n k : Nat} {way : Int} (w0 : 0 ≤ way) (w1 : way < 4) {a : St} {acc : En} (hacc : acc.length ≤ 16) {v6 : SV} (y : Tp) (M : Nat) (h : TpOk y (M + 3)) :
    ∃ r : Int × Tp, exB (tb [m_law_asked, m_law_draw]) bodyE [.ow (eTp false y), .sh (.int n), .sh (.int k), .sh (eS a), .sh (.int way), .sh (eL eQ acc), v6] = .ok (.nx [.ow (eTp false r.2), .sh (.int n), .sh (.int k), .sh (eS a), .sh (.int way), .sh (eL eQ (addE acc a r.1)), .sh (.int r.1)]) ∧ r.1.natAbs < 10 ^ 60 ∧ TpOk r.2 M := by
  have p20 : powD (.int 10) (.int 20) = some (.sh (.int 100000000000000000000)) := powD_nat (k := 20) (by decide) (by decide)
  have p9 : powD (.int 10) (.int 9) = some (.sh (.int 1000000000)) := powD_nat (k := 9) (by decide) (by decide)
  have p60 : (10 : Nat) ^ 60 = 1000000000000000000000000000000000000000000000000000000000000 := by decide
  obtain ⟨⟨v, y1⟩, a1, a2, a3, a4⟩ := r_draw y (M + 2) h 7 (by decide) (by decide)
  simp only at a1 a2 a3 a4
  have add1 : ∀ m : Int, m ≠ 0 → addD (eL eQ acc) (.list [.tuple [eS a, .int m]]) = some (.fr (eL eQ (addE acc a m))) := fun m hm => by
    have := addD_eL (e := eQ) (l := acc) (m := [(a, m)]) (by rw [lim_eq]; simp; omega)
    unfold addE
    rw [if_pos hm]
    exact this
  have add0 : addD (eL eQ acc) (.list []) = some (.fr (eL eQ (addE acc a 0))) := by
    have := addD_eL (e := eQ) (l := acc) (m := []) (by rw [lim_eq]; simp; omega)
    unfold addE
    rw [if_neg (by simp)]
    rw [List.append_nil] at this
    exact this
  have w : way = 0 ∨ way = 1 ∨ way = 2 ∨ way = 3 := by omega
  rcases w with rfl | rfl | rfl | rfl
  · refine ⟨(v - 3, y1), ?_, by rw [p60]; show (v - 3).natAbs < _; omega, a4.mono (by omega)⟩
    by_cases q : v - 3 = 0
    · simp [bodyE, a1, lim_eq, q, add0]
    · simp [bodyE, a1, lim_eq, q, add1 _ q]
  · obtain ⟨⟨u, y2⟩, b1, b2, b3, b4⟩ := r_draw y1 (M + 1) a4 3 (by decide) (by decide)
    simp only at b1 b2 b3 b4
    refine ⟨(u - 1, y2), ?_, by rw [p60]; show (u - 1).natAbs < _; omega, b4.mono (by omega)⟩
    by_cases q : u - 1 = 0
    · simp [bodyE, a1, b1, lim_eq, q, add0]
    · simp [bodyE, a1, b1, lim_eq, q, add1 _ q]
  · obtain ⟨⟨u, y2⟩, b1, b2, b3, b4⟩ := r_draw y1 (M + 1) a4 1000000000 (by decide) (by decide)
    simp only at b1 b2 b3 b4
    have hv : (v - 3).natAbs < 18446744073709551616 := by omega
    refine ⟨((v - 3) * 100000000000000000000 + u, y2), ?_, by rw [p60]; show ((v - 3) * 100000000000000000000 + u).natAbs < _; omega, b4.mono (by omega)⟩
    by_cases q : (v - 3) * 100000000000000000000 + u = 0
    · simp [bodyE, a1, b1, p20, p9, hv, lim_eq, q, add0]
    · simp [bodyE, a1, b1, p20, p9, hv, lim_eq, q, add1 _ q]
  · obtain ⟨⟨u, y2⟩, b1, b2, b3, b4⟩ := r_draw y1 (M + 1) a4 3 (by decide) (by decide)
    simp only at b1 b2 b3 b4
    refine ⟨(if u = 0 then v - 3 else 0, y2), ?_, by rw [p60]; show (if u = 0 then v - 3 else 0).natAbs < _; split <;> omega, b4.mono (by omega)⟩
    by_cases z : u = 0
    · by_cases q : v - 3 = 0
      · simp [bodyE, a1, b1, lim_eq, z, q, add0]
      · simp [bodyE, a1, b1, lim_eq, z, q, add1 _ q]
    · simp [bodyE, a1, b1, lim_eq, z, add0]
theorem r_law_energy {n k : Nat} (hn : n ≤ 4) (hk : k ≤ 4) (x : Tp) (N : Nat) (h : TpOk x (N + 49)) : ∃ r : En × Tp, m_law_energy.run [eTp false x, .int n, .int k] = .ok (eE r.1, [eTp false r.2]) ∧ EOk n r.1 ∧ TpOk r.2 N := by
  have hA := askT_small hk hn
  obtain ⟨⟨way, x1⟩, a1, a2, a3, a4⟩ := r_draw x (N + 48) h 4 (by decide) (by decide)
  simp only at a1 a2 a3 a4
  obtain ⟨⟨E, y, v3, v6⟩, ⟨⟨ys, k1⟩, k2, k3, k4, k5⟩, k6⟩ := for_inv (t := .nm 3) (fb := exB (tb [m_law_asked, m_law_draw]) bodyE) eS
    (fun s : En × Tp × SV × SV => [.ow (eTp false s.2.1), .sh (.int n), .sh (.int k), s.2.2.1, .sh (.int way), .sh (eL eQ s.1), s.2.2.2]) (askT k n)
    (fun xs s => (∃ ys, ys ++ xs = askT k n ∧ List.Sublist (s.1.map (·.1)) ys) ∧ (∀ q ∈ s.1, q.2 ≠ 0 ∧ q.2.natAbs < 10 ^ 60) ∧ TpOk s.2.1 (xs.length * 3 + N) ∧ (∀ d, s.2.2.1 ≠ .ow d) ∧ ∀ d, s.2.2.2 ≠ .ow d) ([], x1, .un, .un)
    ⟨⟨[], rfl, by simp⟩, by simp, a4.mono (by omega), by simp, by simp⟩ (fun a as s ⟨⟨ys, g1, g2⟩, g3, g4, g5, g6⟩ => by
      obtain ⟨acc, y, v3, v6⟩ := s
      have hacc : acc.length ≤ 16 := by
        have q1 := g2.length_le
        have q2 := congrArg List.length g1
        rw [List.length_map] at q1
        rw [List.length_append] at q2
        show acc.length ≤ 16
        simp only at q1
        omega
      obtain ⟨⟨m, y2⟩, e1, e2, e3⟩ := energy_turn (n := n) (k := k) a2 a3 (a := a) hacc (v6 := v6) y (as.length * 3 + N) (g4.mono (by simp; omega))
      refine ⟨_, (addE acc a m, y2, .sh (eS a), .sh (.int m)), rfl, .inl e1, ⟨ys ++ [a], by rw [← g1]; simp, ?_⟩, fun q hq => ?_, e3, by simp, by simp⟩
      · show List.Sublist ((addE acc a m).map (·.1)) (ys ++ [a])
        unfold addE
        split
        · rw [List.map_append]
          exact g2.append (List.Sublist.refl _)
        · exact g2.trans (List.sublist_append_left ys [a])
      · have hq : q ∈ addE acc a m := hq
        unfold addE at hq
        split at hq
        · rename_i hm
          rcases List.mem_append.mp hq with hq | hq
          · exact g3 q hq
          · simp at hq
            subst hq
            exact ⟨hm, e2⟩
        · exact g3 q hq)
  simp only [List.append_nil] at k1
  have hE : EOk n E := EOk_of hk hn (by rw [← k1.1]; exact k1.2) k2
  refine ⟨(E, y), ?_, hE, k3.mono (by simp)⟩
  rw [m_law_energy, run_eq rfl]
  simp [b_law_energy, a1, lim_eq, r_law_asked hn hk]
  refine bind_of _ k6 ?_
  simp
end VL

set_option linter.all false
set_option maxRecDepth 100000
set_option maxHeartbeats 2000000
/-! Q11: what the law looks at. -/
namespace VL
open PySem PySem.W PyProof.Rows
theorem r_is_whole (i : Int) : m_law_is_whole.run [.int i] = .ok (.bool true, []) := by
  rw [m_law_is_whole, run_eq rfl]
  simp [b_law_is_whole]
theorem notNone_eI {o : Option Int} : notNone (eI o) = o.isSome := by cases o <;> rfl
/-- the least value over some states -/
theorem min_vals {L : List St} {V : St → Int} (hne : L ≠ []) : ∃ m, minB [eL PyData.int (L.map V)] = some (.sh (.int m)) ∧ (∃ s ∈ L, V s = m) ∧ ∀ s ∈ L, m ≤ V s := by
  cases L with
  | nil => exact absurd rfl hne
  | cons a l =>
    refine ⟨minT ltI (V a) (l.map V), minB_enc (e := PyData.int) (by decide) (V a) (l.map V), ?_, fun s hs => ?_⟩
    · have := minT_mem ltI (l.map V) (V a)
      have e : V a :: l.map V = (a :: l).map V := rfl
      rw [e] at this
      obtain ⟨s, h1, h2⟩ := List.mem_map.mp this
      exact ⟨s, h1, h2⟩
    · have := minT_le ltI (l.map V) (V a) (V s) (List.mem_map.mpr ⟨s, hs, rfl⟩ : V s ∈ (a :: l).map V)
      simp [ltI] at this
      exact this
section
variable {n : Nat} {E : En}
theorem r_min_states (hn : n ≤ 4) (hE : EOk n E) : ∃ m, minB [eL PyData.int ((allSt n).map (valT E))] = some (.sh (.int m)) ∧ (∃ s ∈ allSt n, valT E s = m) ∧ ∀ s ∈ allSt n, m ≤ valT E s := min_vals allSt_ne
theorem r_depth_right (h1 : 1 ≤ n) (hn : n ≤ 4) (hE : EOk n E) {s : St} (hs : s ∈ allSt n) : m_law_depth_right.run [.int n, eE E, netOf n (downT n E), eS s] = .ok (.bool true, []) := by
  have h16 := small_allSt hn
  obtain ⟨m, m1, ⟨sm, m2, m3⟩, m4⟩ := r_min_states hn hE
  have hd := r_depth h1 hn hE hs
  have hw := r_wants (S := downT n E) hn hs
  have ht64 := turnsT_small hn
  have htie : (tieT n E).length ≤ 64 := Nat.le_trans (List.length_filter_le _ _) ht64
  have hlow16 : (lowT n (valT E) s).length ≤ 16 := Nat.le_trans (List.length_filter_le _ _) h16
  rw [m_law_depth_right, run_eq rfl]
  simp [b_law_depth_right, r_law_value hn hE hs]
  refine bind_of _ (comp_map (ρ0 := [.sh (.int n), .sh (eE E), .sh (netOf n (downT n E)), .sh (eS s), .un, .un, .un, .un, .un, .un, .un]) eS PyData.int (allSt n) (valT E) ?_ rfl rfl rfl (by rw [lim_eq]; omega) fun o ho => ⟨_, rfl, ?_, rfl⟩) ?_
  · simp [r_law_states hn]
  · simp [r_law_value hn hE ho]
  have hties : ∀ ρ4 ρ5 m', fComp [10] (.nm 10) (iSeq (fCall m_tie_turns (mCons (fVar 0) (mCons (fVar 1) oNil)) [])) (fTest (fBin (fBin (fVar 10) (fC (.int 0)) ixR) (fVar 3) (cmpR .eq))) (fVar 10) [.sh (.int n), .sh (eE E), .sh (netOf n (downT n E)), .sh (eS s), .sh ρ4, .sh ρ5, .un, .sh (.int (valT E s)), .sh (.int m'), .un, .un]
      = .ok (.fr (eL eQ ((tieT n E).filter fun t => decide (t.1 = s))), [.sh (.int n), .sh (eE E), .sh (netOf n (downT n E)), .sh (eS s), .sh ρ4, .sh ρ5, .un, .sh (.int (valT E s)), .sh (.int m'), .un, .un]) := by
    intro ρ4 ρ5 m'
    have := comp_enc (own := [10]) (t := .nm 10) (fi := iSeq (fCall m_tie_turns (mCons (fVar 0) (mCons (fVar 1) oNil)) [])) (fc := fTest (fBin (fBin (fVar 10) (fC (.int 0)) ixR) (fVar 3) (cmpR .eq))) (fe := fVar 10) (ρ := [.sh (.int n), .sh (eE E), .sh (netOf n (downT n E)), .sh (eS s), .sh ρ4, .sh ρ5, .un, .sh (.int (valT E s)), .sh (.int m'), .un, .un]) (ρ0 := [.sh (.int n), .sh (eE E), .sh (netOf n (downT n E)), .sh (eS s), .sh ρ4, .sh ρ5, .un, .sh (.int (valT E s)), .sh (.int m'), .un, .un]) eQ eQ (tieT n E) (fun t => decide (t.1 = s)) id ?_ rfl rfl rfl (by rw [lim_eq]; omega) (fun t ht => ⟨_, rfl, ?_, fun _ => rfl, rfl⟩)
    · rw [List.map_id] at this
      exact this
    · simp [r_tie_turns h1 hn hE]
    · simp [eqD_tup (e := PyData.int) (by decide)]
  have htl : ((tieT n E).filter fun t => decide (t.1 = s)).length ≤ 64 := Nat.le_trans (List.length_filter_le _ _) htie
  have hlower : ∀ ρ4, fComp [9] (.nm 9) (iSeq (fCall m_law_states (mCons (fVar 0) oNil) [])) (fTest (fBin (fCall m_law_value (mCons (fVar 1) (mCons (fVar 9) oNil)) []) (fVar 7) (cmpR .lt))) (fVar 9) [.sh (.int n), .sh (eE E), .sh (netOf n (downT n E)), .sh (eS s), .sh ρ4, .un, .un, .sh (.int (valT E s)), .sh (.int m), .un, .un]
      = .ok (.fr (eL eS (lowT n (valT E) s)), [.sh (.int n), .sh (eE E), .sh (netOf n (downT n E)), .sh (eS s), .sh ρ4, .un, .un, .sh (.int (valT E s)), .sh (.int m), .un, .un]) := by
    intro ρ4
    have := comp_enc (own := [9]) (t := .nm 9) (fi := iSeq (fCall m_law_states (mCons (fVar 0) oNil) [])) (fc := fTest (fBin (fCall m_law_value (mCons (fVar 1) (mCons (fVar 9) oNil)) []) (fVar 7) (cmpR .lt))) (fe := fVar 9) (ρ := [.sh (.int n), .sh (eE E), .sh (netOf n (downT n E)), .sh (eS s), .sh ρ4, .un, .un, .sh (.int (valT E s)), .sh (.int m), .un, .un]) (ρ0 := [.sh (.int n), .sh (eE E), .sh (netOf n (downT n E)), .sh (eS s), .sh ρ4, .un, .un, .sh (.int (valT E s)), .sh (.int m), .un, .un]) eS eS (allSt n) (fun o => decide (valT E o < valT E s)) id ?_ rfl rfl rfl (by rw [lim_eq]; omega) (fun o ho => ⟨_, rfl, ?_, fun _ => rfl, rfl⟩)
    · rw [List.map_id] at this
      exact this
    · simp [r_law_states hn]
    · simp [r_law_value hn hE ho]
  have tiesOk : wT n (downT n E) s = [] → ((tieT n E).filter fun t => decide (t.1 = s)) = [] → ∀ x ∈ nbs s, valT E s < valT E x := by
    intro hwn htn x hx
    have h3 := (wants_nil hs).mp hwn x hx
    obtain ⟨i, hi, rfl⟩ := (mem_nbs_iff hs).mp hx
    have : valT E (turn s i) ≠ valT E s := fun z => by
      have hm : (s, i) ∈ (tieT n E).filter fun t => decide (t.1 = s) := List.mem_filter.mpr ⟨mem_tieT.mpr ⟨mem_turnsT.mpr ⟨hs, hi⟩, z⟩, by simp⟩
      rw [htn] at hm
      cases hm
    omega
  generalize htdef : ((tieT n E).filter fun t => decide (t.1 = s)) = ties at hties htl tiesOk
  cases dn : dptT n (valT E) s with
  | none =>
    have hall := dpt_none.mp dn
    have hm : valT E s = m := by
      have q1 := m4 s hs
      have q2 := hall sm m2
      omega
    have hwn : wT n (downT n E) s = [] := (wants_nil hs).mpr fun x hx => hall x (mem_nbs hs hx)
    rw [dn] at hd
    have hd' : m_depth.run [.int n, eE E, eS s] = .ok (.none, []) := hd
    simp [m1, hd', hw, hwn, hm, lim_eq, eqD_tup0 (e := PyData.int) (by decide)]
    rw [hm] at hlower hties
    refine bind_of _ (hlower .none) ?_
    simp
    refine bind_of _ (hties .none _ m) ?_
    simp [hw, hwn, lim_eq, eqD_tup0 (e := PyData.int) (by decide), eqD_lst0 (e := eQ) (by decide)]
  | some d =>
    have hd0 := dpt_nn hn hs dn
    obtain ⟨o, os, hlow, hdd⟩ := dpt_some dn
    have hol := mem_lowT.mp (show o ∈ lowT n (valT E) s by rw [hlow]; simp)
    have hm : ¬ valT E s = m := by
      have := m4 o hol.1
      omega
    rw [dn] at hd
    have hd' : m_depth.run [.int n, eE E, eS s] = .ok (.int d, []) := hd
    have hdn : ¬ d < 0 := by omega
    have hmin : minB [eL PyData.int ((lowT n (valT E) s).map fun o => hgt n (valT E) s o - valT E s)] = some (.sh (.int d)) := by
      have q1 := minB_enc (e := PyData.int) (by decide) (hgt n (valT E) s o - valT E s) ((os.map (hgt n (valT E) s)).map fun x => x - valT E s)
      rw [minT_sub, ← hdd, List.map_map] at q1
      rw [hlow]
      exact q1
    have hpass : ∀ ρ4, fComp [9] (.nm 9) (iSeq (fVar 5)) cYes (fBi .max (oCons (fC (.int 0)) (oCons (fBin (fCall m_pass_height (mCons (fVar 0) (mCons (fVar 1) (mCons (fVar 3) (mCons (fVar 9) oNil)))) []) (fVar 7) subD) oNil))) [.sh (.int n), .sh (eE E), .sh (netOf n (downT n E)), .sh (eS s), .sh ρ4, .sh (eL eS (lowT n (valT E) s)), .un, .sh (.int (valT E s)), .sh (.int m), .un, .un]
        = .ok (.fr (eL PyData.int ((lowT n (valT E) s).map fun o => hgt n (valT E) s o - valT E s)), [.sh (.int n), .sh (eE E), .sh (netOf n (downT n E)), .sh (eS s), .sh ρ4, .sh (eL eS (lowT n (valT E) s)), .un, .sh (.int (valT E s)), .sh (.int m), .un, .un]) := by
      intro ρ4
      refine comp_map (ρ0 := [.sh (.int n), .sh (eE E), .sh (netOf n (downT n E)), .sh (eS s), .sh ρ4, .sh (eL eS (lowT n (valT E) s)), .un, .sh (.int (valT E s)), .sh (.int m), .un, .un]) eS PyData.int (lowT n (valT E) s) _ ?_ rfl rfl rfl (by rw [lim_eq]; omega) (fun o ho => ⟨_, rfl, ?_, rfl⟩)
      · simp
      · obtain ⟨ho1, ho2⟩ := mem_lowT.mp ho
        have hne : s ≠ o := fun z => by rw [z] at ho2; omega
        have hge := hgt_ge (V := valT E) hn hs ho1
        have hmx : (if hgt n (valT E) s o - valT E s > 0 then hgt n (valT E) s o - valT E s else 0) = hgt n (valT E) s o - valT E s := by
          split <;> omega
        simp [r_pass_height h1 hn hE hs ho1 hne]
        simp at hmx
        omega
    have hret : wT n (downT n E) s = [] → ties = [] → 0 < d := fun q1 q2 => dpt_pos hn hs (tiesOk q1 q2) dn
    have hzero : wT n (downT n E) s ≠ [] → d = 0 := fun q => by
      have : ¬ ∀ x ∈ nbs s, valT E s ≤ valT E x := fun z => q ((wants_nil hs).mpr z)
      obtain ⟨x, z⟩ := Classical.not_forall.mp this
      obtain ⟨hx, hv⟩ := Classical.not_imp.mp z
      have := dpt_zero (V := valT E) hn hs hx (show valT E x < valT E s by omega)
      rw [dn] at this
      exact Option.some.inj this
    simp [m1, hd', hw, hm, hdn, r_is_whole, lim_eq, eqD_tup0 (e := PyData.int) (by decide)]
    by_cases q : wT n (downT n E) s = []
    · simp [q]
      refine bind_of _ (hlower (.int d)) ?_
      simp
      refine bind_of _ (hpass (.int d)) ?_
      simp [hmin]
      refine bind_of _ (hties (.int d) _ m) ?_
      simp [hw, q, lim_eq, eqD_tup0 (e := PyData.int) (by decide), eqD_lst0 (e := eQ) (by decide)]
      by_cases q2 : ties = []
      · simp [q2, hret q q2]
      · simp [q2]
    · have hz := hzero q
      subst hz
      simp [q]
      refine bind_of _ (hlower (.int 0)) ?_
      simp
      refine bind_of _ (hpass (.int 0)) ?_
      simp [hmin]
      refine bind_of _ (hties (.int 0) _ m) ?_
      simp [hw, q, lim_eq, eqD_tup0 (e := PyData.int) (by decide), eqD_lst0 (e := eQ) (by decide)]
end
end VL

set_option linter.all false
set_option maxRecDepth 100000
set_option maxHeartbeats 2000000
/-! Q12: what steps lead to; bottoms; as the law looks at them. -/
namespace VL
open PySem PySem.W PyProof.Rows
def bodyL : MB := (.cons (.set 6 false (.bi .list (.cons (.call 8 (.cons (.var 1) (.cons (.var 2) (.cons (.var 5) .nil))) []) .nil))) (.cons (.ite (.or (.cmp .ne (.comp [8] (.nm 8) (.seq (.call 5 (.cons (.var 4) (.cons (.var 5) .nil)) [])) (.cons (.cmp .notin (.var 8) (.var 6)) .nil) (.var 8)) (.lst .nil)) (.cmp .ne (.comp [8] (.nm 8) (.seq (.call 5 (.cons (.var 3) (.cons (.var 5) .nil)) [])) (.cons (.cmp .notin (.var 8) (.var 6)) .nil) (.var 8)) (.lst .nil))) (.cons (.ret (.bl false)) .nil) .nil) (.cons (.set 7 false (.call 6 (.cons (.var 3) (.cons (.var 2) (.cons (.var 5) .nil))) [])) (.cons (.ite (.or (.cmp .ne (.call 10 (.cons (.var 3) (.cons (.var 7) .nil)) []) (.tup .nil)) (.or (.cmp .notin (.var 7) (.call 7 (.cons (.var 3) (.cons (.var 5) .nil)) [])) (.cmp .gt (.call 9 (.cons (.var 1) (.cons (.var 2) (.cons (.var 7) .nil))) []) (.call 9 (.cons (.var 1) (.cons (.var 2) (.cons (.var 5) .nil))) [])))) (.cons (.ret (.bl false)) .nil) .nil) (.cons (.ite (.cmp .ne (.bi .min (.cons (.comp [8] (.nm 8) (.seq (.call 7 (.cons (.var 3) (.cons (.var 5) .nil)) [])) .nil (.call 4 (.cons (.var 2) (.cons (.var 8) .nil)) [])) .nil)) (.call 4 (.cons (.var 2) (.cons (.var 7) .nil)) [])) (.cons (.ret (.bl false)) .nil) .nil) .nil)))))
abbrev tbL : Fns := tb [m_law_down, m_law_net, m_law_some, m_law_states, m_law_value, m_led, m_lowest_led, m_rests_led, m_valley_of, m_value_at, m_wants]
section
variable {n : Nat} {E : En}
/-- none of what is led to lies outside the valley -/
theorem none_out {L Vy : List St} {e : Ev} {i : Nat} (h16 : L.length ≤ 16) (h : ∀ s ∈ L, s ∈ Vy) : L.filter (fun s => decide (s ∉ Vy)) = [] := by
  rw [List.filter_eq_nil_iff]
  intro s hs
  simp [h s hs]
theorem led_turn (h1 : 1 ≤ n) (hn : n ≤ 4) (hE : EOk n E) {S : List Tn} (hS : ∀ t ∈ S, t ∈ downT n E) {s : St} (hs : s ∈ allSt n) {T : D} {v6 v7 : SV} :
    ∃ ρ' : SV × SV, exB tbL bodyL [.ow T, .sh (.int n), .sh (eE E), .sh (netOf n (downT n E)), .sh (netOf n S), .sh (eS s), v6, v7, .un] = .ok (.nx [.ow T, .sh (.int n), .sh (eE E), .sh (netOf n (downT n E)), .sh (netOf n S), .sh (eS s), ρ'.1, ρ'.2, .un]) := by
  obtain ⟨Vy, y1, y2⟩ := r_valley_of h1 hn hE hs
  obtain ⟨L1, a1, a2, a3⟩ := r_led (S := S) h1 hn hs
  obtain ⟨L2, b1, b2, b3⟩ := r_led (S := downT n E) h1 hn hs
  obtain ⟨r, c1, c2, c3, c4⟩ := r_lowest_led h1 hn hE low_down hs
  obtain ⟨L3, d1, _, d2, d3⟩ := r_rests_led (S := downT n E) h1 hn hs
  have hr := Led.st hs c2
  have f1 : L1.filter (fun s => decide (s ∉ Vy)) = [] := none_out (e := []) (i := 0) a2 fun x hx => (y2 x).mpr (led_valley hS hs ((a3 x).mp hx))
  have f2 : L2.filter (fun s => decide (s ∉ Vy)) = [] := none_out (e := []) (i := 0) b2 fun x hx => (y2 x).mpr (led_valley (fun t h => h) hs ((b3 x).mp hx))
  have hrin : r ∈ L3 := (d3 r).mpr ⟨c2, c3⟩
  have hle : ¬ valT E s < valT E r := by
    have := (led_valley (fun t h => h) hs c2).val
    omega
  obtain ⟨m, m1, ⟨s1, m2, m3⟩, m4⟩ := min_vals (L := L3) (V := valT E) (fun z => by rw [z] at hrin; cases hrin)
  have hm : m = valT E r := by
    have q1 := m4 r hrin
    have q2 := (d3 s1).mp m2
    have q3 := c4 s1 q2.1 q2.2
    omega
  have comp : ∀ (S' : List Tn) (L : List St) (k : Nat) (ρ : Ev), m_led.run [netOf n S', eS s] = .ok (eT eS L, []) → L.length ≤ 16 → L.filter (fun s => decide (s ∉ Vy)) = [] → (k = 3 ∧ S' = downT n E ∨ k = 4 ∧ S' = S) →
      fComp [8] (.nm 8) (iSeq (fCall m_led (mCons (fVar k) (mCons (fVar 5) oNil)) [])) (fTest (fBin (fVar 8) (fVar 6) (cmpR .notin))) (fVar 8) [.ow T, .sh (.int n), .sh (eE E), .sh (netOf n (downT n E)), .sh (netOf n S), .sh (eS s), .sh (eL eS Vy), v7, .un] = .ok (.fr (eL eS []), [.ow T, .sh (.int n), .sh (eE E), .sh (netOf n (downT n E)), .sh (netOf n S), .sh (eS s), .sh (eL eS Vy), v7, .un]) := by
    intro S' L k ρ g1 g2 g3 g4
    have := comp_enc (own := [8]) (t := .nm 8) (fi := iSeq (fCall m_led (mCons (fVar k) (mCons (fVar 5) oNil)) [])) (fc := fTest (fBin (fVar 8) (fVar 6) (cmpR .notin))) (fe := fVar 8) (ρ := [.ow T, .sh (.int n), .sh (eE E), .sh (netOf n (downT n E)), .sh (netOf n S), .sh (eS s), .sh (eL eS Vy), v7, .un]) (ρ0 := [.ow T, .sh (.int n), .sh (eE E), .sh (netOf n (downT n E)), .sh (netOf n S), .sh (eS s), .sh (eL eS Vy), v7, .un]) eS eS L (fun s => decide (s ∉ Vy)) id ?_ rfl rfl rfl (by rw [lim_eq]; omega) (fun o ho => ⟨_, rfl, ?_, fun _ => rfl, rfl⟩)
    · rw [List.map_id, g3] at this
      exact this
    · rcases g4 with ⟨rfl, rfl⟩ | ⟨rfl, rfl⟩
      · simp [g1]
      · simp [g1]
    · simp [inD_lst (e := eS) (by decide)]
  refine ⟨(.sh (eL eS Vy), .sh (eS r)), ?_⟩
  simp [bodyL, y1]
  refine bind_of _ (comp S L1 4 [] a1 a2 f1 (.inr ⟨rfl, rfl⟩)) ?_
  simp [lim_eq, eqD_lst0 (e := eS) (by decide)]
  refine bind_of _ (comp (downT n E) L2 3 [] b1 b2 f2 (.inl ⟨rfl, rfl⟩)) ?_
  simp [lim_eq, eqD_lst0 (e := eS) (by decide), c1, r_wants hn hr, c3, d1, inD_tup (e := eS) (by decide), hrin, r_value_at h1 hn hE hs, r_value_at h1 hn hE hr, hle, eqD_tup0 (e := PyData.int) (by decide)]
  refine bind_of _ (comp_map (ρ0 := [.ow T, .sh (.int n), .sh (eE E), .sh (netOf n (downT n E)), .sh (netOf n S), .sh (eS s), .sh (eL eS Vy), .sh (eS r), .un]) eS PyData.int L3 (valT E) ?_ rfl rfl rfl (by rw [lim_eq]; omega) fun o ho => ⟨_, rfl, ?_, rfl⟩) ?_
  · simp [d1]
  · simp [r_law_value hn hE (Led.st hs ((d3 o).mp ho).1)]
  · simp [m1, r_law_value hn hE hr, hm]
theorem r_led_right (h1 : 1 ≤ n) (hn : n ≤ 4) (hE : EOk n E) (x : Tp) (N : Nat) (h : TpOk x (N + 66)) : ∃ y : Tp, m_law_led_right.run [eTp false x, .int n, eE E, netOf n (downT n E)] = .ok (.bool true, [eTp false y]) ∧ TpOk y N := by
  have hdl := downT_small hn (E := E)
  obtain ⟨⟨S, y⟩, e1, e2, e3⟩ := r_some x N (downT n E) hdl (h.mono (by omega))
  simp only at e1 e2 e3
  obtain ⟨⟨v5, v6, v7⟩, _, k2⟩ := for_inv (t := .nm 5) (fb := exB tbL bodyL) eS (fun s : SV × SV × SV => [.ow (eTp false y), .sh (.int n), .sh (eE E), .sh (netOf n (downT n E)), .sh (netOf n S), s.1, s.2.1, s.2.2, .un]) (allSt n) (fun xs s => ∀ u ∈ xs, u ∈ allSt n) (.un, .un, .un) (fun u hu => hu) (fun u us st hp => by
    obtain ⟨v5, v6, v7⟩ := st
    obtain ⟨ρ', hρ⟩ := led_turn h1 hn hE (S := S) (fun t ht => e2.subset ht) (hp u (by simp)) (T := eTp false y) (v6 := v6) (v7 := v7)
    exact ⟨_, (.sh (eS u), ρ'.1, ρ'.2), rfl, .inl hρ, fun z hz => hp z (by simp [hz])⟩)
  refine ⟨y, ?_, e3⟩
  rw [m_law_led_right, run_eq rfl]
  simp [b_law_led_right, r_law_down hn hE, e1, r_law_net h1 hn, r_law_states hn]
  refine bind_of _ k2 ?_
  simp
/-! ### bottoms -/
theorem bot_ok (h1 : 1 ≤ n) (hn : n ≤ 4) {lot : List St} (hl : lot ∈ botT n (valT E)) : lot.length ≤ 16 ∧ ∃ s tl, s ∈ allSt n ∧ lot = s :: tl ∧ ∀ o ∈ lot, o ∈ allSt n ∧ wT n (downT n E) o = [] ∧ valT E o = valT E s := by
  unfold botT at hl
  obtain ⟨s, hs, rfl⟩ := List.mem_map.mp hl
  obtain ⟨hs1, hs2⟩ := List.mem_filter.mp hs
  obtain ⟨_, l2, l3, _⟩ := r_level_of h1 hn (V := valT E) hs1
  obtain ⟨q1, q2⟩ := bot_mem hs2
  have hst : ∀ o ∈ lvl n (valT E) s, o ∈ allSt n := fun o ho => ((l3 o).mp ho).st hs1
  refine ⟨lot_small hn l2 hst, ?_⟩
  cases e : lvl n (valT E) s with
  | nil => rw [e] at q1; cases q1
  | cons a tl =>
    rw [e] at q1
    cases q1
    refine ⟨s, tl, hs1, rfl, fun o ho => ?_⟩
    rw [← e] at ho
    have hv := ((l3 o).mp ho).val
    exact ⟨hst o ho, (wants_nil (hst o ho)).mpr fun x hx => by have := q2 o ho x hx; omega, hv⟩
theorem bot_len (hn : n ≤ 4) : (botT n (valT E)).length ≤ 16 := by
  unfold botT
  rw [List.length_map]
  exact Nat.le_trans (List.length_filter_le _ _) (small_allSt hn)
theorem bot_rests (h1 : 1 ≤ n) (hn : n ≤ 4) (ht : tieT n E = []) : botT n (valT E) = ((allSt n).filter fun s => decide (wT n (downT n E) s = [])).map fun s => [s] := by
  have noTie : ∀ s ∈ allSt n, ∀ x ∈ nbs s, valT E x ≠ valT E s := by
    intro s hs x hx z
    obtain ⟨i, hi, rfl⟩ := (mem_nbs_iff hs).mp hx
    have : (s, i) ∈ tieT n E := mem_tieT.mpr ⟨mem_turnsT.mpr ⟨hs, hi⟩, z⟩
    rw [ht] at this
    cases this
  have single : ∀ s ∈ allSt n, lvl n (valT E) s = [s] := by
    intro s hs
    obtain ⟨_, l2, l3, _⟩ := r_level_of h1 hn (V := valT E) hs
    have only : ∀ o ∈ lvl n (valT E) s, o = s := fun o ho => ((l3 o).mp ho).mem (P := fun z => z = s) rfl fun b c hb r => by
      subst hb
      exact absurd r.2 (noTie b hs c r.1)
    have hin := (l3 s).mpr .refl
    cases e : lvl n (valT E) s with
    | nil => rw [e] at hin; cases hin
    | cons a tl =>
      rw [e] at only l2
      have ea := only a (by simp)
      subst ea
      cases tl with
      | nil => rfl
      | cons b tl =>
        have := only b (by simp)
        subst this
        simp at l2
  unfold botT
  have e1 : (allSt n).filter (botB n (valT E)) = (allSt n).filter fun s => decide (wT n (downT n E) s = []) := by
    refine List.filter_congr fun s hs => ?_
    unfold botB
    rw [single s hs]
    simp [wants_nil hs]
  rw [e1]
  refine List.map_congr_left fun s hs => single s (List.mem_filter.mp hs).1
theorem cntR_eL {α : Type} [DecidableEq α] {e : α → D} {k : Nat} [h : EncF e] [DepF e k] [BEq α] [LawfulBEq α] (hk : k + 1 ≤ 20) (l : List α) (a : α) : cntR (eL e l) (e a) = some (.sh (.int (l.count a))) := by
  have h1 : okD (e a) = true := okD_enc (by omega) a
  have h2 : okD (eL e l) = true := okD_enc hk l
  unfold eL at h2 ⊢
  show (if okD (e a) ∧ okD (.list (l.map e)) then some (Rv.sh (.int ((l.map e).countP fun z => PyData.eqv z (e a)))) else none) = _
  rw [if_pos ⟨h1, h2⟩, List.countP_map]
  refine congrArg (fun k : Nat => some (Rv.sh (PyData.int (k : Int)))) ?_
  unfold List.count
  refine List.countP_congr fun x _ => ?_
  simp [h.eqv]
def bodyB : MB := (.cons (.ite (.cmp .ne (.comp [8] (.nm 8) (.seq (.var 5)) (.cons (.or (.cmp .notin (.var 8) (.var 4)) (.cmp .ne (.call 1 (.cons (.var 1) (.cons (.var 8) .nil)) []) (.call 1 (.cons (.var 1) (.cons (.ix (.var 5) (.int (0))) .nil)) []))) .nil) (.var 8)) (.lst .nil)) (.cons (.ret (.bl false)) .nil) .nil) .nil)
def bodyH : MB := (.cons (.set 7 false (.bin .add (.var 7) (.bi .list (.cons (.var 5) .nil)))) .nil)
abbrev tbB : Fns := tb [m_law_states, m_law_value, m_bottoms, m_tie_turns, m_wants]
theorem r_bottoms_right (h1 : 1 ≤ n) (hn : n ≤ 4) (hE : EOk n E) : m_law_bottoms_right.run [.int n, eE E, netOf n (downT n E)] = .ok (.bool true, []) := by
  have h16 := small_allSt hn
  have hbl := bot_len (E := E) hn
  generalize hR : (allSt n).filter (fun s => decide (wT n (downT n E) s = [])) = R
  have hRl : R.length ≤ 16 := by rw [← hR]; exact Nat.le_trans (List.length_filter_le _ _) h16
  obtain ⟨m, m1, ⟨sm, m2, m3⟩, m4⟩ := r_min_states hn hE
  obtain ⟨v5, _, k2⟩ := for_inv (t := .nm 5) (fb := exB tbB bodyB) (eT eS) (fun v : SV => [.sh (.int n), .sh (eE E), .sh (netOf n (downT n E)), .sh (eL (eT eS) (botT n (valT E))), .sh (eL eS R), v, .un, .un, .un]) (botT n (valT E)) (fun xs v => (∀ l ∈ xs, l ∈ botT n (valT E)) ∧ ∀ d, v ≠ .ow d) .un ⟨fun l hl => hl, by simp⟩ (fun lot ls v ⟨g1, g2⟩ => by
    obtain ⟨b1, s, tl, b2, b3, b4⟩ := bot_ok h1 hn (g1 lot (by simp))
    refine ⟨_, .sh (eT eS lot), rfl, .inl ?_, fun z hz => g1 z (by simp [hz]), by simp⟩
    have hix : ixD (eT eS lot) (.int 0) = some (eS s) := ixD_tup (by decide) (by rw [b3]; rfl)
    simp [bodyB]
    refine bind_of _ (comp_enc (ρ0 := [.sh (.int n), .sh (eE E), .sh (netOf n (downT n E)), .sh (eL (eT eS) (botT n (valT E))), .sh (eL eS R), .sh (eT eS lot), .un, .un, .un]) eS eS lot (fun _ => false) id (by simp) rfl rfl rfl (by rw [lim_eq]; omega) fun o ho => ⟨_, rfl, ?_, fun _ => rfl, rfl⟩) ?_
    · obtain ⟨c1, c2, c3⟩ := b4 o ho
      have hin : o ∈ R := by rw [← hR]; exact List.mem_filter.mpr ⟨c1, by simpa using c2⟩
      simp [inD_lst (e := eS) (by decide), hin, hix, r_law_value hn hE c1, r_law_value hn hE b2, c3]
    · simp [lim_eq, eqD_lst0 (e := eS) (by decide)])
  obtain ⟨⟨held, w5⟩, ⟨j1, _, _⟩, j2⟩ := for_inv (t := .nm 5) (fb := exB tbB bodyH) (eT eS) (fun s : List St × SV => [.sh (.int n), .sh (eE E), .sh (netOf n (downT n E)), .sh (eL (eT eS) (botT n (valT E))), .sh (eL eS R), s.2, .sh (.int m), .sh (eL eS s.1), .un]) (botT n (valT E)) (fun xs s => s.1 ++ xs.flatten = (botT n (valT E)).flatten ∧ s.1.length + 16 * xs.length ≤ 256 ∧ ∀ l ∈ xs, l ∈ botT n (valT E)) ([], v5) ⟨by simp, by simp; omega, fun l hl => hl⟩ (fun lot ls st ⟨g1, g2, g3⟩ => by
    obtain ⟨acc, v⟩ := st
    obtain ⟨b1, _⟩ := bot_ok h1 hn (g3 lot (by simp))
    have g2 : acc.length + 16 * (ls.length + 1) ≤ 256 := by simpa using g2
    have hadd := addD_eL (e := eS) (l := acc) (m := lot) (by rw [lim_eq]; omega)
    refine ⟨_, (acc ++ lot, .sh (eT eS lot)), rfl, .inl ?_, ?_, by simp; omega, fun z hz => g3 z (by simp [hz])⟩
    · simp [bodyH, hadd]
    · rw [← g1]
      simp)
  have j1 : held = (botT n (valT E)).flatten := by simpa using j1
  have hone : ∀ s ∈ allSt n, valT E s = m → held.count s = 1 := fun s hs hv => by
    rw [j1]
    exact bot_one h1 hn hs fun o ho => by rw [hv]; exact m4 o ho
  rw [m_law_bottoms_right, run_eq rfl]
  simp [b_law_bottoms_right, r_bottoms h1 hn hE]
  refine bind_of _ (comp_enc (ρ0 := [.sh (.int n), .sh (eE E), .sh (netOf n (downT n E)), .sh (eL (eT eS) (botT n (valT E))), .un, .un, .un, .un, .un]) eS eS (allSt n) (fun s => decide (wT n (downT n E) s = [])) id ?_ rfl rfl rfl (by rw [lim_eq]; omega) fun o ho => ⟨_, rfl, ?_, fun _ => rfl, rfl⟩) ?_
  · simp [r_law_states hn]
  · simp [r_wants hn ho, lim_eq, eqD_tup0 (e := PyData.int) (by decide)]
  rw [List.map_id, hR]
  simp
  refine bind_of _ k2 ?_
  simp [r_tie_turns h1 hn hE, lim_eq, eqD_lst0 (e := eQ) (by decide)]
  have hc1 : ∀ v5, fComp [8] (.nm 8) (iSeq (fVar 4)) cYes (fTup (fCons (fVar 8) fNil)) [.sh (.int n), .sh (eE E), .sh (netOf n (downT n E)), .sh (eL (eT eS) (botT n (valT E))), .sh (eL eS R), v5, .un, .un, .un] = .ok (.fr (eL (eT eS) (R.map fun s => [s])), [.sh (.int n), .sh (eE E), .sh (netOf n (downT n E)), .sh (eL (eT eS) (botT n (valT E))), .sh (eL eS R), v5, .un, .un, .un]) := fun v5 =>
    comp_map (ρ0 := [.sh (.int n), .sh (eE E), .sh (netOf n (downT n E)), .sh (eL (eT eS) (botT n (valT E))), .sh (eL eS R), v5, .un, .un, .un]) eS (eT eS) R (fun s => [s]) (by simp) rfl rfl rfl (by rw [lim_eq]; omega) (fun s hs => ⟨_, rfl, by simp [lim_eq]; rfl, rfl⟩)
  have hc2 : ∀ v5, fComp [8] (.nm 8) (iSeq (fCall m_law_states (mCons (fVar 0) oNil) [])) cYes (fCall m_law_value (mCons (fVar 1) (mCons (fVar 8) oNil)) []) [.sh (.int n), .sh (eE E), .sh (netOf n (downT n E)), .sh (eL (eT eS) (botT n (valT E))), .sh (eL eS R), v5, .un, .un, .un] = .ok (.fr (eL PyData.int ((allSt n).map (valT E))), [.sh (.int n), .sh (eE E), .sh (netOf n (downT n E)), .sh (eL (eT eS) (botT n (valT E))), .sh (eL eS R), v5, .un, .un, .un]) := fun v5 =>
    comp_map (ρ0 := [.sh (.int n), .sh (eE E), .sh (netOf n (downT n E)), .sh (eL (eT eS) (botT n (valT E))), .sh (eL eS R), v5, .un, .un, .un]) eS PyData.int (allSt n) (valT E) (by simp [r_law_states hn]) rfl rfl rfl (by rw [lim_eq]; omega) (fun s hs => ⟨_, rfl, by simp [r_law_value hn hE hs], rfl⟩)
  have hc3 : fComp [8] (.nm 8) (iSeq (fCall m_law_states (mCons (fVar 0) oNil) [])) (fTest (fAnd (fBin (fCall m_law_value (mCons (fVar 1) (mCons (fVar 8) oNil)) []) (fVar 6) (cmpR .eq)) (fBin (fMeth (fVar 7) (fVar 8) cntR) (fC (.int 1)) (cmpR .ne)))) (fVar 8) [.sh (.int n), .sh (eE E), .sh (netOf n (downT n E)), .sh (eL (eT eS) (botT n (valT E))), .sh (eL eS R), w5, .sh (.int m), .sh (eL eS held), .un] = .ok (.fr (eL eS []), [.sh (.int n), .sh (eE E), .sh (netOf n (downT n E)), .sh (eL (eT eS) (botT n (valT E))), .sh (eL eS R), w5, .sh (.int m), .sh (eL eS held), .un]) := by
    have := comp_enc (own := [8]) (t := .nm 8) (fi := iSeq (fCall m_law_states (mCons (fVar 0) oNil) [])) (fc := fTest (fAnd (fBin (fCall m_law_value (mCons (fVar 1) (mCons (fVar 8) oNil)) []) (fVar 6) (cmpR .eq)) (fBin (fMeth (fVar 7) (fVar 8) cntR) (fC (.int 1)) (cmpR .ne)))) (fe := fVar 8) (ρ := [.sh (.int n), .sh (eE E), .sh (netOf n (downT n E)), .sh (eL (eT eS) (botT n (valT E))), .sh (eL eS R), w5, .sh (.int m), .sh (eL eS held), .un]) (ρ0 := [.sh (.int n), .sh (eE E), .sh (netOf n (downT n E)), .sh (eL (eT eS) (botT n (valT E))), .sh (eL eS R), w5, .sh (.int m), .sh (eL eS held), .un]) eS eS (allSt n) (fun _ => false) id (by simp [r_law_states hn]) rfl rfl rfl (by rw [lim_eq]; omega) (fun s hs => ⟨_, rfl, by
      by_cases q : valT E s = m
      · simp [r_law_value hn hE hs, q, cntR_eL (e := eS) (by decide), hone s hs q]
      · simp [r_law_value hn hE hs, q], fun z => (by cases z), rfl⟩)
    rw [show (allSt n).filter (fun _ => false) = [] from by rw [List.filter_eq_nil_iff]; simp] at this
    exact this
  by_cases q : tieT n E = []
  · have hbr := bot_rests h1 hn q
    rw [hR] at hbr
    simp [q]
    refine bind_of _ (hc1 v5) ?_
    have heq : eqD (eL (eT eS) (botT n (valT E))) (eL (eT eS) (R.map fun s => [s])) = some true := by
      rw [eqD_lst (e := eT eS) (by decide), decide_eq_true hbr]
    simp [heq]
    refine bind_of _ (hc2 v5) ?_
    simp [m1, lim_eq]
    refine bind_of _ j2 ?_
    simp
    refine bind_of _ hc3 ?_
    simp [lim_eq, eqD_lst0 (e := eS) (by decide)]
  · simp [q]
    refine bind_of _ (hc2 v5) ?_
    simp [m1, lim_eq]
    refine bind_of _ j2 ?_
    simp
    refine bind_of _ hc3 ?_
    simp [lim_eq, eqD_lst0 (e := eS) (by decide)]
end
end VL

set_option linter.all false
set_option maxRecDepth 100000
set_option maxHeartbeats 2000000
/-! Q13: the law. -/
namespace VL
open PySem PySem.W PyProof.Rows
def bodyT : MB := (.cons (.set 4 false (.bin .add (.int (1)) (.call 3 (.cons (.var 1) (.cons (.ite (.cmp .eq (.var 2) (.int (0))) (.int (4)) (.int (3))) .nil)) []))) (.cons (.set 5 false (.call 4 (.cons (.var 1) (.cons (.var 4) (.cons (.bin .add (.int (1)) (.call 3 (.cons (.var 1) (.cons (.var 4) .nil)) [])) .nil))) [])) (.cons (.set 6 false (.call 10 (.cons (.var 4) (.cons (.var 5) .nil)) [])) (.cons (.for_ (.nm 7) (.seq (.slc (.call 6 (.cons (.var 1) (.cons (.call 7 (.cons (.var 4) .nil) []) .nil)) []) .nil (.cons (.int (8)) .nil))) (.cons (.ite (.not (.call 2 (.cons (.var 4) (.cons (.var 5) (.cons (.var 6) (.cons (.var 7) .nil)))) [])) (.cons (.ret (.bl false)) .nil) .nil) .nil)) (.cons (.ite (.or (.not (.call 5 (.cons (.var 1) (.cons (.var 4) (.cons (.var 5) (.cons (.var 6) .nil)))) [])) (.not (.call 1 (.cons (.var 4) (.cons (.var 5) (.cons (.var 6) .nil))) []))) (.cons (.ret (.bl false)) .nil) .nil) .nil)))))
def bodyI : MB := (.cons (.ite (.not (.call 2 (.cons (.var 4) (.cons (.var 5) (.cons (.var 6) (.cons (.var 7) .nil)))) [])) (.cons (.ret (.bl false)) .nil) .nil) .nil)
abbrev tbK : Fns := tb [m_law_begun, m_law_bottoms_right, m_law_depth_right, m_law_draw, m_law_energy, m_law_led_right, m_law_mixed, m_law_states, m_bottoms, m_depth, m_net_of_energy]
def oneE : En := [([0], -1), ([1], -1), ([0, 1], 2)]
theorem one_ok : EOk 2 oneE := by
  have : (EOk 2 oneE) ↔ True := by
    unfold EOk TermOk AskOk
    decide +kernel
  exact this.mpr trivial
theorem one_bot : botT 2 (valT oneE) = [[[0, 1]], [[1, 0]]] := by
  rw [bot_rests (by decide) (by decide) (by decide +kernel)]
  decide +kernel
theorem one_none : dptT 2 (valT oneE) [0, 1] = none := dpt_none.mpr (by decide +kernel)
theorem one_zero : dptT 2 (valT oneE) [0, 0] = some 0 := dpt_zero (x := [0, 1]) (by decide) (by decide +kernel) (by decide +kernel) (by decide +kernel)
theorem law_turn {ns : List Int} {i : Int} (x : Tp) (N : Nat) (h : TpOk x (N + 300)) {v4 v5 v6 v7 : SV} : ∃ r : Tp × SV × SV × SV × SV, exB tbK bodyT [.sh (Dscr ns), .ow (eTp false x), .sh (.int i), .un, v4, v5, v6, v7] = .ok (.nx [.sh (Dscr ns), .ow (eTp false r.1), .sh (.int i), .un, r.2.1, r.2.2.1, r.2.2.2.1, r.2.2.2.2]) ∧ TpOk r.1 N := by
  obtain ⟨⟨u, x1⟩, a1, a2, a3, a4⟩ := r_draw x (N + 299) h (if i = 0 then 4 else 3) (by split <;> decide) (by split <;> decide)
  simp only at a1 a2 a3 a4
  obtain ⟨n, hn⟩ : ∃ n : Nat, 1 + u = n := ⟨(1 + u).toNat, by omega⟩
  have hn4 : n ≤ 4 := by split at a3 <;> omega
  have hn1 : 1 ≤ n := by omega
  obtain ⟨⟨w, x2⟩, b1, b2, b3, b4⟩ := r_draw x1 (N + 298) a4 n (by omega) (by omega)
  simp only at b1 b2 b3 b4
  obtain ⟨k, hk⟩ : ∃ k : Nat, 1 + w = k := ⟨(1 + w).toNat, by omega⟩
  have hk4 : k ≤ 4 := by omega
  obtain ⟨⟨E, x3⟩, c1, hE, c3⟩ := r_law_energy hn4 hk4 x2 (N + 249) (b4.mono (by omega))
  simp only at c1 hE c3
  have h16 := small_allSt hn4
  obtain ⟨⟨L, x4⟩, d1, ⟨d2, d3⟩, d4⟩ := r_mixed x3 (N + 66) (allSt n) (by omega) (c3.mono (by omega))
  simp only at d1 d2 d3 d4
  obtain ⟨x5, e1, e2⟩ := r_led_right hn1 hn4 hE x4 N d4
  have hb := r_bottoms_right hn1 hn4 hE
  obtain ⟨v, _, k2⟩ := for_inv (t := .nm 7) (fb := exB tbK bodyI) eS (fun v : SV => [.sh (Dscr ns), .ow (eTp false x4), .sh (.int i), .un, .sh (.int n), .sh (eE E), .sh (netOf n (downT n E)), v]) (L.take 8) (fun xs _ => ∀ s ∈ xs, s ∈ allSt n) v7 (fun s hs => d3 s (List.mem_of_mem_take hs)) (fun s ss v hp => by
    refine ⟨_, .sh (eS s), rfl, .inl ?_, fun z hz => hp z (by simp [hz])⟩
    simp [bodyI, r_depth_right hn1 hn4 hE (hp s (by simp))])
  rw [List.map_take] at k2
  refine ⟨(x5, .sh (.int n), .sh (eE E), .sh (netOf n (downT n E)), v), ?_, e2⟩
  by_cases q : i = 0
  · subst q
    simp at a1
    simp [bodyT, a1, hn, b1, hk, c1, r_net_of_energy hn1 hn4 hE, r_law_states hn4, d1, lim_eq, cut_to]
    refine bind_of _ k2 ?_
    simp [e1, hb]
  · rw [if_neg q] at a1
    simp [bodyT, q, a1, hn, b1, hk, c1, r_net_of_energy hn1 hn4 hE, r_law_states hn4, d1, lim_eq, cut_to]
    refine bind_of _ k2 ?_
    simp [e1, hb]
theorem law_holds (ns : List Int) (hl : ns.length ≤ 63) : m_law.run [Dscr ns] = .ok (.bool true, []) := by
  obtain ⟨x, a1, a2, a3⟩ := r_begun ns hl
  have hlen : lenB [Dscr ns] = some (.sh (.int ns.length)) := by
    show some (Rv.sh (.int (ns.map PyData.int).length)) = _
    rw [List.length_map]
  obtain ⟨N, hN⟩ : ∃ N : Nat, (3 + (if (5 : Int) < ns.length then 5 else (ns.length : Int))) = N ∧ N ≤ 8 := ⟨(3 + (if (5 : Int) < ns.length then 5 else (ns.length : Int))).toNat, by split <;> omega, by split <;> omega⟩
  obtain ⟨hN1, hN2⟩ := hN
  obtain ⟨⟨y, v2, v4, v5, v6, v7⟩, _, k2⟩ := for_inv (t := .nm 2) (fb := exB tbK bodyT) PyData.int (fun s : Tp × SV × SV × SV × SV × SV => [.sh (Dscr ns), .ow (eTp false s.1), s.2.1, .un, s.2.2.1, s.2.2.2.1, s.2.2.2.2.1, s.2.2.2.2.2]) (rngI N) (fun xs s => TpOk s.1 (xs.length * 300)) (x, .un, .un, .un, .un, .un) ⟨a2, by show 0 ≤ x.t; omega, by show x.t + ((rngI N).length * 300 : Nat) ≤ 1000000; rw [a3]; simp; omega⟩ (fun i is s hp => by
    obtain ⟨y, v2, v4, v5, v6, v7⟩ := s
    obtain ⟨⟨z, w4, w5, w6, w7⟩, b1, b2⟩ := law_turn (ns := ns) (i := i) y (is.length * 300) (hp.mono (by simp; omega)) (v4 := v4) (v5 := v5) (v6 := v6) (v7 := v7)
    exact ⟨_, (z, .sh (.int i), w4, w5, w6, w7), rfl, .inl b1, b2⟩)
  have hone : PyData.tuple [.tuple [.tuple [.int 0], .int (-1)], .tuple [.tuple [.int 1], .int (-1)], .tuple [eS [0, 1], .int 2]] = eE oneE := rfl
  have h01 : PyData.tuple [.int 0, .int 1] = eS [0, 1] := rfl
  have h00 : PyData.tuple [.int 0, .int 0] = eS [0, 0] := rfl
  have hb := r_bottoms (n := 2) (by decide) (by decide) one_ok
  rw [one_bot] at hb
  have hd1 := r_depth (n := 2) (by decide) (by decide) one_ok (s := [0, 1]) (by decide +kernel)
  rw [one_none] at hd1
  have hd0 := r_depth (n := 2) (by decide) (by decide) one_ok (s := [0, 0]) (by decide +kernel)
  rw [one_zero] at hd0
  have hd1 : m_depth.run [.int 2, eE oneE, eS [0, 1]] = .ok (.none, []) := hd1
  have hd0 : m_depth.run [.int 2, eE oneE, eS [0, 0]] = .ok (.int 0, []) := hd0
  have hb : m_bottoms.run [.int 2, eE oneE] = .ok (eL (eT eS) [[[0, 1]], [[1, 0]]], []) := hb
  have heq : eqD (eL (eT eS) [[[0, 1]], [[1, 0]]]) (.list [.tuple [eS [0, 1]], .tuple [eS [1, 0]]]) = some true := eqD_lst (e := eT eS) (by decide) [[[0, 1]], [[1, 0]]] [[[0, 1]], [[1, 0]]]
  have h10 : PyData.tuple [.int 1, .int 0] = eS [1, 0] := rfl
  have hn3 : ((3 + (if (5 : Int) < ns.length then 5 else (ns.length : Int))) ≤ 1000000) := by split <;> omega
  have hn4 : (-1000000 : Int) ≤ (3 + (if (5 : Int) < ns.length then 5 else (ns.length : Int))) := by split <;> omega
  rw [m_law, run_eq rfl]
  have g1 : (N : Int) ≤ 1000000 := by omega
  have g2 : (-1000000 : Int) ≤ N := by omega
  simp [b_law, a1, hlen]
  rw [hN1]
  simp [lim_eq, g1, g2]
  refine bind_of _ k2 ?_
  simp [lim_eq, hone, h01, h00, h10, hb, hd1, hd0, heq]
end VL

set_option Elab.async false
set_option linter.all false
set_option maxRecDepth 100000
set_option maxHeartbeats 4000000
namespace VL
open PySem PySem.Spec PySem.W PyProof.Rows L2 He
def top (i : Nat) : Stmt := PySem.Challenge.pw_lowersteps_k74_across_valleys_of_energie.main.body.getD i (.Pass ⟨0, 0, 0, 0⟩)
def inCls (s : Stmt) (x : Str) : Stmt := match s with
  | .ClassDef _ _ _ b _ _ _ _ _ _ _ => (b.find? fun q => match q with | .FunctionDef n _ _ _ _ _ _ _ _ _ => n == x | _ => false).getD (.Pass ⟨0,0,0,0⟩)
  | _ => s

def dd_all_states : DefD := ⟨("all_states", none), "all_states", "all_states", L2.defArgs (top 19), L2.defBody (top 19), L2.defScope (top 19), [], []⟩
def dd_product_at : DefD := ⟨("product_at", none), "product_at", "product_at", L2.defArgs (top 43), L2.defBody (top 43), L2.defScope (top 43), [], []⟩
def dd_value_by : DefD := ⟨("value_by", none), "value_by", "value_by", L2.defArgs (top 44), L2.defBody (top 44), L2.defScope (top 44), [], []⟩
def dd_values_by : DefD := ⟨("values_by", none), "values_by", "values_by", L2.defArgs (top 46), L2.defBody (top 46), L2.defScope (top 46), [], []⟩
def dd_is_number : DefD := ⟨("is_number", none), "is_number", "is_number", L2.defArgs (top 12), L2.defBody (top 12), L2.defScope (top 12), [], []⟩
def dd_is_between : DefD := ⟨("is_between", none), "is_between", "is_between", L2.defArgs (top 13), L2.defBody (top 13), L2.defScope (top 13), [], []⟩
def dd_is_tuple_of : DefD := ⟨("is_tuple_of", none), "is_tuple_of", "is_tuple_of", L2.defArgs (top 16), L2.defBody (top 16), L2.defScope (top 16), [], []⟩
def dd_is_state : DefD := ⟨("is_state", none), "is_state", "is_state", L2.defArgs (top 24), L2.defBody (top 24), L2.defScope (top 24), [], []⟩
def dd_need_state : DefD := ⟨("need_state", none), "need_state", "need_state", L2.defArgs (top 25), L2.defBody (top 25), L2.defScope (top 25), [], []⟩
def dd_need_many : DefD := ⟨("need_many", none), "need_many", "need_many", L2.defArgs (top 35), L2.defBody (top 35), L2.defScope (top 35), [], []⟩
def dd_asked_mark : DefD := ⟨("asked_mark", none), "asked_mark", "asked_mark", L2.defArgs (top 38), L2.defBody (top 38), L2.defScope (top 38), [], []⟩
def dd_is_rising : DefD := ⟨("is_rising", none), "is_rising", "is_rising", L2.defArgs (top 15), L2.defBody (top 15), L2.defScope (top 15), [], []⟩
def dd_is_asked : DefD := ⟨("is_asked", none), "is_asked", "is_asked", L2.defArgs (top 27), L2.defBody (top 27), L2.defScope (top 27), [], []⟩
def dd_is_term : DefD := ⟨("is_term", none), "is_term", "is_term", L2.defArgs (top 39), L2.defBody (top 39), L2.defScope (top 39), [], []⟩
def dd_is_energy_by : DefD := ⟨("is_energy_by", none), "is_energy_by", "is_energy_by", L2.defArgs (top 40), L2.defBody (top 40), L2.defScope (top 40), [], []⟩
def dd_need_energy : DefD := ⟨("need_energy", none), "need_energy", "need_energy", L2.defArgs (top 41), L2.defBody (top 41), L2.defScope (top 41), [.non], []⟩
def dd_need_switches_energy : DefD := ⟨("need_switches_energy", none), "need_switches_energy", "need_switches_energy", L2.defArgs (top 42), L2.defBody (top 42), L2.defScope (top 42), [], []⟩
def dd_need_energy_state : DefD := ⟨("need_energy_state", none), "need_energy_state", "need_energy_state", L2.defArgs (top 57), L2.defBody (top 57), L2.defScope (top 57), [], []⟩
def dd_turned_at : DefD := ⟨("turned_at", none), "turned_at", "turned_at", L2.defArgs (top 28), L2.defBody (top 28), L2.defScope (top 28), [], []⟩
def dd_states_beside : DefD := ⟨("states_beside", none), "states_beside", "states_beside", L2.defArgs (top 51), L2.defBody (top 51), L2.defScope (top 51), [], []⟩
def dd_ways_within : DefD := ⟨("ways_within", none), "ways_within", "ways_within", L2.defArgs (top 52), L2.defBody (top 52), L2.defScope (top 52), [], []⟩
def dd_height_by : DefD := ⟨("height_by", none), "height_by", "height_by", L2.defArgs (top 53), L2.defBody (top 53), L2.defScope (top 53), [], []⟩
def dd_depth_by : DefD := ⟨("depth_by", none), "depth_by", "depth_by", L2.defArgs (top 59), L2.defBody (top 59), L2.defScope (top 59), [], []⟩
def dd_depth : DefD := ⟨("depth", none), "depth", "depth", L2.defArgs (top 60), L2.defBody (top 60), L2.defScope (top 60), [], []⟩
def dd_level_of : DefD := ⟨("level_of", none), "level_of", "level_of", L2.defArgs (top 61), L2.defBody (top 61), L2.defScope (top 61), [], []⟩
def dd_bottoms_by : DefD := ⟨("bottoms_by", none), "bottoms_by", "bottoms_by", L2.defArgs (top 62), L2.defBody (top 62), L2.defScope (top 62), [], []⟩
def dd_bottoms : DefD := ⟨("bottoms", none), "bottoms", "bottoms", L2.defArgs (top 63), L2.defBody (top 63), L2.defScope (top 63), [], []⟩
def dd_is_list : DefD := ⟨("is_list", none), "is_list", "is_list", L2.defArgs (top 14), L2.defBody (top 14), L2.defScope (top 14), [], []⟩
def dd_states_many : DefD := ⟨("states_many", none), "states_many", "states_many", L2.defArgs (top 20), L2.defBody (top 20), L2.defScope (top 20), [], []⟩
def dd_need_rules : DefD := ⟨("need_rules", none), "need_rules", "need_rules", L2.defArgs (top 21), L2.defBody (top 21), L2.defScope (top 21), [], []⟩
def dd_Net_init : DefD := ⟨("Net", some "__init__"), "__init__", "Net.__init__", L2.defArgs (inCls (top 22) "__init__"), L2.defBody (inCls (top 22) "__init__"), L2.defScope (inCls (top 22) "__init__"), [], []⟩
def dd_net_by_steps : DefD := ⟨("net_by_steps", none), "net_by_steps", "net_by_steps", L2.defArgs (top 34), L2.defBody (top 34), L2.defScope (top 34), [], []⟩
def dd_behind_step : DefD := ⟨("behind_step", none), "behind_step", "behind_step", L2.defArgs (top 33), L2.defBody (top 33), L2.defScope (top 33), [], []⟩
def dd_turn_in : DefD := ⟨("turn_in", none), "turn_in", "turn_in", L2.defArgs (top 47), L2.defBody (top 47), L2.defScope (top 47), [], []⟩
def dd_change_by : DefD := ⟨("change_by", none), "change_by", "change_by", L2.defArgs (top 48), L2.defBody (top 48), L2.defScope (top 48), [], []⟩
def dd_turns_by : DefD := ⟨("turns_by", none), "turns_by", "turns_by", L2.defArgs (top 67), L2.defBody (top 67), L2.defScope (top 67), [], []⟩
def dd_net_by_energy : DefD := ⟨("net_by_energy", none), "net_by_energy", "net_by_energy", L2.defArgs (top 68), L2.defBody (top 68), L2.defScope (top 68), [], []⟩
def dd_net_of_energy : DefD := ⟨("net_of_energy", none), "net_of_energy", "net_of_energy", L2.defArgs (top 69), L2.defBody (top 69), L2.defScope (top 69), [], []⟩
def dd_law_begun : DefD := ⟨("_law_begun", none), "_law_begun", "_law_begun", L2.defArgs (top 82), L2.defBody (top 82), L2.defScope (top 82), [], []⟩
def dd_law_blended : DefD := ⟨("_law_blended", none), "_law_blended", "_law_blended", L2.defArgs (top 83), L2.defBody (top 83), L2.defScope (top 83), [], []⟩
def dd_law_draw : DefD := ⟨("_law_draw", none), "_law_draw", "_law_draw", L2.defArgs (top 84), L2.defBody (top 84), L2.defScope (top 84), [], []⟩
def dd_law_mixed : DefD := ⟨("_law_mixed", none), "_law_mixed", "_law_mixed", L2.defArgs (top 85), L2.defBody (top 85), L2.defScope (top 85), [], []⟩
def dd_law_states : DefD := ⟨("_law_states", none), "_law_states", "_law_states", L2.defArgs (top 87), L2.defBody (top 87), L2.defScope (top 87), [], []⟩
def dd_law_asked : DefD := ⟨("_law_asked", none), "_law_asked", "_law_asked", L2.defArgs (top 90), L2.defBody (top 90), L2.defScope (top 90), [], []⟩
def dd_law_energy : DefD := ⟨("_law_energy", none), "_law_energy", "_law_energy", L2.defArgs (top 95), L2.defBody (top 95), L2.defScope (top 95), [], []⟩
def dd_Net_switches : DefD := ⟨("Net", some "switches"), "switches", "Net.switches", L2.defArgs (inCls (top 22) "switches"), L2.defBody (inCls (top 22) "switches"), L2.defScope (inCls (top 22) "switches"), [], []⟩
def dd_need_net : DefD := ⟨("need_net", none), "need_net", "need_net", L2.defArgs (top 23), L2.defBody (top 23), L2.defScope (top 23), [.non], []⟩
def dd_need_net_state : DefD := ⟨("need_net_state", none), "need_net_state", "need_net_state", L2.defArgs (top 26), L2.defBody (top 26), L2.defScope (top 26), [], []⟩
def dd_next_by : DefD := ⟨("next_by", none), "next_by", "next_by", L2.defArgs (top 29), L2.defBody (top 29), L2.defScope (top 29), [], []⟩
def dd_wants_by : DefD := ⟨("wants_by", none), "wants_by", "wants_by", L2.defArgs (top 30), L2.defBody (top 30), L2.defScope (top 30), [], []⟩
def dd_wants : DefD := ⟨("wants", none), "wants", "wants", L2.defArgs (top 31), L2.defBody (top 31), L2.defScope (top 31), [], []⟩
def dd_need_states : DefD := ⟨("need_states", none), "need_states", "need_states", L2.defArgs (top 54), L2.defBody (top 54), L2.defScope (top 54), [], []⟩
def dd_pass_height : DefD := ⟨("pass_height", none), "pass_height", "pass_height", L2.defArgs (top 55), L2.defBody (top 55), L2.defScope (top 55), [], []⟩
def dd_tie_turns : DefD := ⟨("tie_turns", none), "tie_turns", "tie_turns", L2.defArgs (top 70), L2.defBody (top 70), L2.defScope (top 70), [], []⟩
def dd_law_is_whole : DefD := ⟨("_law_is_whole", none), "_law_is_whole", "_law_is_whole", L2.defArgs (top 86), L2.defBody (top 86), L2.defScope (top 86), [], []⟩
def dd_law_value : DefD := ⟨("_law_value", none), "_law_value", "_law_value", L2.defArgs (top 91), L2.defBody (top 91), L2.defScope (top 91), [], []⟩
def dd_law_depth_right : DefD := ⟨("_law_depth_right", none), "_law_depth_right", "_law_depth_right", L2.defArgs (top 97), L2.defBody (top 97), L2.defScope (top 97), [], []⟩
def dd_value_at : DefD := ⟨("value_at", none), "value_at", "value_at", L2.defArgs (top 45), L2.defBody (top 45), L2.defScope (top 45), [], []⟩
def dd_valley_of : DefD := ⟨("valley_of", none), "valley_of", "valley_of", L2.defArgs (top 58), L2.defBody (top 58), L2.defScope (top 58), [], []⟩
def dd_next_states : DefD := ⟨("next_states", none), "next_states", "next_states", L2.defArgs (top 72), L2.defBody (top 72), L2.defScope (top 72), [], []⟩
def dd_lines_by : DefD := ⟨("lines_by", none), "lines_by", "lines_by", L2.defArgs (top 76), L2.defBody (top 76), L2.defScope (top 76), [], []⟩
def dd_led : DefD := ⟨("led", none), "led", "led", L2.defArgs (top 77), L2.defBody (top 77), L2.defScope (top 77), [], []⟩
def dd_is_rest_by : DefD := ⟨("is_rest_by", none), "is_rest_by", "is_rest_by", L2.defArgs (top 75), L2.defBody (top 75), L2.defScope (top 75), [], []⟩
def dd_rests_by : DefD := ⟨("rests_by", none), "rests_by", "rests_by", L2.defArgs (top 78), L2.defBody (top 78), L2.defScope (top 78), [], []⟩
def dd_rests_led : DefD := ⟨("rests_led", none), "rests_led", "rests_led", L2.defArgs (top 79), L2.defBody (top 79), L2.defScope (top 79), [], []⟩
def dd_need_net_energy : DefD := ⟨("need_net_energy", none), "need_net_energy", "need_net_energy", L2.defArgs (top 49), L2.defBody (top 49), L2.defScope (top 49), [], []⟩
def dd_steps_by : DefD := ⟨("steps_by", none), "steps_by", "steps_by", L2.defArgs (top 32), L2.defBody (top 32), L2.defScope (top 32), [], []⟩
def dd_lowers_by : DefD := ⟨("lowers_by", none), "lowers_by", "lowers_by", L2.defArgs (top 65), L2.defBody (top 65), L2.defScope (top 65), [], []⟩
def dd_need_lowering : DefD := ⟨("need_lowering", none), "need_lowering", "need_lowering", L2.defArgs (top 73), L2.defBody (top 73), L2.defScope (top 73), [], []⟩
def dd_lowest_led : DefD := ⟨("lowest_led", none), "lowest_led", "lowest_led", L2.defArgs (top 80), L2.defBody (top 80), L2.defScope (top 80), [], []⟩
def dd_law_turns : DefD := ⟨("_law_turns", none), "_law_turns", "_law_turns", L2.defArgs (top 89), L2.defBody (top 89), L2.defScope (top 89), [], []⟩
def dd_law_turned : DefD := ⟨("_law_turned", none), "_law_turned", "_law_turned", L2.defArgs (top 88), L2.defBody (top 88), L2.defScope (top 88), [], []⟩
def dd_law_change : DefD := ⟨("_law_change", none), "_law_change", "_law_change", L2.defArgs (top 92), L2.defBody (top 92), L2.defScope (top 92), [], []⟩
def dd_law_down : DefD := ⟨("_law_down", none), "_law_down", "_law_down", L2.defArgs (top 93), L2.defBody (top 93), L2.defScope (top 93), [], []⟩
def dd_law_net : DefD := ⟨("_law_net", none), "_law_net", "_law_net", L2.defArgs (top 94), L2.defBody (top 94), L2.defScope (top 94), [], []⟩
def dd_law_some : DefD := ⟨("_law_some", none), "_law_some", "_law_some", L2.defArgs (top 96), L2.defBody (top 96), L2.defScope (top 96), [], []⟩
def dd_law_led_right : DefD := ⟨("_law_led_right", none), "_law_led_right", "_law_led_right", L2.defArgs (top 98), L2.defBody (top 98), L2.defScope (top 98), [], []⟩
def dd_law_bottoms_right : DefD := ⟨("_law_bottoms_right", none), "_law_bottoms_right", "_law_bottoms_right", L2.defArgs (top 99), L2.defBody (top 99), L2.defScope (top 99), [], []⟩
def dd_law : DefD := ⟨("law", none), "law", "law", L2.defArgs (top 100), L2.defBody (top 100), L2.defScope (top 100), [], []⟩
def fn0 : List DefD := [dd_all_states, dd_product_at, dd_value_by, dd_values_by, dd_is_number, dd_is_between, dd_is_tuple_of, dd_is_state, dd_need_state, dd_need_many, dd_asked_mark, dd_is_rising, dd_is_asked, dd_is_term, dd_is_energy_by, dd_need_energy, dd_need_switches_energy, dd_need_energy_state, dd_turned_at, dd_states_beside, dd_ways_within, dd_height_by, dd_depth_by, dd_depth, dd_level_of, dd_bottoms_by, dd_bottoms, dd_is_list, dd_states_many, dd_need_rules]
def fn1 : List DefD := [dd_Net_init, dd_net_by_steps, dd_behind_step, dd_turn_in, dd_change_by, dd_turns_by, dd_net_by_energy, dd_net_of_energy, dd_law_begun, dd_law_blended, dd_law_draw, dd_law_mixed, dd_law_states, dd_law_asked, dd_law_energy, dd_need_net, dd_need_net_state, dd_next_by, dd_wants_by, dd_wants, dd_need_states, dd_pass_height, dd_tie_turns, dd_law_is_whole, dd_law_value, dd_law_depth_right, dd_value_at, dd_valley_of, dd_next_states, dd_lines_by]
def fn2 : List DefD := [dd_led, dd_is_rest_by, dd_rests_by, dd_rests_led, dd_need_net_energy, dd_steps_by, dd_lowers_by, dd_need_lowering, dd_lowest_led, dd_law_turns, dd_law_turned, dd_law_change, dd_law_down, dd_law_net, dd_law_some, dd_law_led_right, dd_law_bottoms_right, dd_law]
def fn : List DefD := fn0 ++ fn1 ++ fn2
def pr0 : List DefD := [dd_Net_switches]
def pr : List DefD := pr0
def fa0 : List Fa := [.glo "all_states", .glo "product_at", .glo "value_by", .glo "values_by", .glo "is_number", .glo "is_between", .glo "is_tuple_of", .glo "is_state", .glo "need_state", .glo "need_many", .glo "asked_mark", .glo "is_rising", .glo "is_asked", .glo "is_term", .glo "is_energy_by", .glo "need_energy", .glo "need_switches_energy", .glo "need_energy_state", .glo "turned_at", .glo "states_beside", .glo "ways_within", .glo "height_by", .glo "depth_by", .glo "depth", .glo "level_of", .glo "bottoms_by", .glo "bottoms", .glo "is_list", .glo "states_many", .glo "need_rules"]
def fa1 : List Fa := [.glo "net_by_steps", .glo "behind_step", .glo "turn_in", .glo "change_by", .glo "turns_by", .glo "net_by_energy", .glo "net_of_energy", .glo "_law_begun", .glo "_law_blended", .glo "_law_draw", .glo "_law_mixed", .glo "_law_states", .glo "_law_asked", .glo "_law_energy", .glo "need_net", .glo "need_net_state", .glo "next_by", .glo "wants_by", .glo "wants", .glo "need_states", .glo "pass_height", .glo "tie_turns", .glo "_law_is_whole", .glo "_law_value", .glo "_law_depth_right", .glo "value_at", .glo "valley_of", .glo "next_states", .glo "lines_by", .glo "led"]
def fa2 : List Fa := [.glo "is_rest_by", .glo "rests_by", .glo "rests_led", .glo "need_net_energy", .glo "steps_by", .glo "lowers_by", .glo "need_lowering", .glo "lowest_led", .glo "_law_turns", .glo "_law_turned", .glo "_law_change", .glo "_law_down", .glo "_law_net", .glo "_law_some", .glo "_law_led_right", .glo "_law_bottoms_right", .glo "law", .glo "Net", .mkr "Net", .noat "Net" "own_rules", .noat "Net" "own_nexts", .int "MOST_NUMBER" 1000000000000000000000000000000000000000000000000000000000000, .int "MOST_SWITCHES" 4, .free "len", .free "abs", .free "int", .free "tuple", .free "list", .free "sorted", .free "sum"]
def fa3 : List Fa := [.free "all", .free "any", .free "min", .free "max", .free "isinstance", .free "range", .free "enumerate", .free "zip", .free "bool", .free "str"]
def fa : List Fa := fa0 ++ fa1 ++ fa2 ++ fa3
def cl : List Cl := [(1, "Net", ["own_rules", "own_nexts"])]
def loose0 : List Str := ["__name__", "StepError", "PartError", "ItemError", "NoNet", "BadEnergy", "BadRules", "BadState", "BadStates", "NoRoom", "NoPaper", "is_number", "is_between", "is_list", "is_rising", "is_tuple_of", "MOST_SWITCHES", "all_states", "states_many", "need_rules", "Net", "need_net", "is_state", "need_state", "need_net_state", "is_asked", "turned_at", "next_by", "wants_by", "wants"]
def loose1 : List Str := ["steps_by", "behind_step", "net_by_steps", "need_many", "MOST_NUMBER", "asked_mark", "is_term", "is_energy_by", "need_energy", "need_switches_energy", "product_at", "value_by", "value_at", "values_by", "turn_in", "change_by", "need_net_energy", "states_beside", "ways_within", "height_by", "need_states", "pass_height", "need_energy_state", "valley_of", "depth_by", "depth", "level_of", "bottoms_by", "bottoms", "lowers_by"]
def loose2 : List Str := ["turns_by", "net_by_energy", "net_of_energy", "tie_turns", "next_states", "need_lowering", "is_rest_by", "lines_by", "led", "rests_by", "rests_led", "lowest_led", "_law_begun", "_law_blended", "_law_draw", "_law_mixed", "_law_is_whole", "_law_states", "_law_turned", "_law_turns", "_law_asked", "_law_value", "_law_change", "_law_down", "_law_net", "_law_energy", "_law_some", "_law_depth_right", "_law_led_right", "_law_bottoms_right"]
def loose : List Str := loose0 ++ loose1 ++ loose2
section
variable {G : Program} {w : World} {K : Frag} {mg : Str → Option Value} {base : Heap} (H : HK fa fn pr cl K mg)
abbrev cls' (K : Frag) := clsOf K cl
include H
theorem mo : Mo K mg (clsOf K cl) := H.mo fun x hx => by
  have : ∀ x ∈ btNames, fa.any (fun f => match f with | .free y => decide (y = x) | _ => false) = true := by decide +kernel
  obtain ⟨f, h1, h2⟩ := List.any_eq_true.mp (this x hx)
  cases f with
  | free y =>
    have : y = x := of_decide_eq_true h2
    subst this
    exact List.mem_iff_getElem?.mp h1
  | _ => cases h2
theorem i_Net : IsAt mg (clsOf K cl) "Net" 1 := ⟨by decide, by decide, _, _, H.glo 77 rfl, rfl⟩
theorem fld_own_rules : FldAt K (clsOf K cl) "own_rules" 1 0 := ⟨by decide, by decide, _, ["own_rules", "own_nexts"], rfl, (mo H).kok.cl 1 _ _ rfl, rfl, by decide +kernel, noat_ok (H.fact 79 rfl)⟩
theorem fld_own_nexts : FldAt K (clsOf K cl) "own_nexts" 1 1 := ⟨by decide, by decide, _, ["own_rules", "own_nexts"], rfl, (mo H).kok.cl 1 _ _ rfl, rfl, by decide +kernel, noat_ok (H.fact 80 rfl)⟩
omit H in
theorem sc_all_states : FnScope ["many", "found", "switch", "state", "answer"] ["many"] (L2.defScope (top 19)) := ⟨rfl, rfl, rfl, by decide +kernel, rfl, by decide +kernel, by decide +kernel⟩
theorem d_all_states : DefAt G w K mg base (clsOf K cl) "all_states" m_all_states 1 [] 2 := by
  obtain ⟨fd, F⟩ := H.def_ 0 (d := dd_all_states) rfl
  exact ⟨_, H.glo 0 rfl, def_fn (fresh := false) (n := 40) (dfl := []) (j := 0) F (mo H) sc_all_states (fl := []) (nl := []) (cl := []) (al := []) (own := []) (ms := []) (mp := []) (b := b_all_states) trivial trivial trivial trivial rfl (by decide) (F.bindsN fun _ _ _ _ _ _ us hl => match us, hl with | [_], _ => rfl) (fun z => absurd rfl z)⟩
omit H in
theorem sc_product_at : FnScope ["asked", "state", "switch"] ["asked", "state"] (L2.defScope (top 43)) := ⟨rfl, rfl, rfl, by decide +kernel, rfl, by decide +kernel, by decide +kernel⟩
theorem d_product_at : DefAt G w K mg base (clsOf K cl) "product_at" m_product_at 2 [] 2 := by
  obtain ⟨fd, F⟩ := H.def_ 1 (d := dd_product_at) rfl
  exact ⟨_, H.glo 1 rfl, def_fn (fresh := false) (n := 40) (dfl := []) (j := 0) F (mo H) sc_product_at (fl := []) (nl := []) (cl := []) (al := []) (own := []) (ms := []) (mp := []) (b := b_product_at) trivial trivial trivial trivial rfl (by decide) (F.bindsN fun _ _ _ _ _ _ us hl => match us, hl with | [_, _], _ => rfl) (fun z => absurd rfl z)⟩
omit H in
theorem sc_value_by : FnScope ["energy", "state", "asked", "number"] ["energy", "state"] (L2.defScope (top 44)) := ⟨rfl, rfl, rfl, by decide +kernel, rfl, by decide +kernel, by decide +kernel⟩
theorem d_value_by : DefAt G w K mg base (clsOf K cl) "value_by" m_value_by 2 [] 4 := by
  obtain ⟨fd, F⟩ := H.def_ 2 (d := dd_value_by) rfl
  exact ⟨_, H.glo 2 rfl, def_fn (fresh := false) (n := 40) (dfl := []) (j := 2) F (mo H) sc_value_by (fl := [("product_at", 0, 2, [])]) (nl := []) (cl := []) (al := []) (own := []) (ms := [m_product_at]) (mp := []) (b := b_value_by) ⟨(d_product_at H).mono (by decide), trivial⟩ trivial trivial trivial rfl (by decide) (F.bindsN fun _ _ _ _ _ _ us hl => match us, hl with | [_, _], _ => rfl) (fun z => absurd rfl z)⟩
omit H in
theorem sc_values_by : FnScope ["many", "energy", "state"] ["many", "energy"] (L2.defScope (top 46)) := ⟨rfl, rfl, rfl, by decide +kernel, rfl, by decide +kernel, by decide +kernel⟩
theorem d_values_by : DefAt G w K mg base (clsOf K cl) "values_by" m_values_by 2 [] 6 := by
  obtain ⟨fd, F⟩ := H.def_ 3 (d := dd_values_by) rfl
  exact ⟨_, H.glo 3 rfl, def_fn (fresh := false) (n := 40) (dfl := []) (j := 4) F (mo H) sc_values_by (fl := [("all_states", 0, 1, []), ("value_by", 1, 2, [])]) (nl := []) (cl := []) (al := []) (own := []) (ms := [m_all_states, m_value_by]) (mp := []) (b := b_values_by) ⟨(d_all_states H).mono (by decide), (d_value_by H).mono (by decide), trivial⟩ trivial trivial trivial rfl (by decide) (F.bindsN fun _ _ _ _ _ _ us hl => match us, hl with | [_, _], _ => rfl) (fun z => absurd rfl z)⟩
omit H in
theorem sc_is_number : FnScope ["thing"] ["thing"] (L2.defScope (top 12)) := ⟨rfl, rfl, rfl, by decide +kernel, rfl, by decide +kernel, by decide +kernel⟩
theorem d_is_number : DefAt G w K mg base (clsOf K cl) "is_number" m_is_number 1 [] 2 := by
  obtain ⟨fd, F⟩ := H.def_ 4 (d := dd_is_number) rfl
  exact ⟨_, H.glo 4 rfl, def_fn (fresh := false) (n := 40) (dfl := []) (j := 0) F (mo H) sc_is_number (fl := []) (nl := []) (cl := []) (al := []) (own := []) (ms := []) (mp := []) (b := b_is_number) trivial trivial trivial trivial rfl (by decide) (F.bindsN fun _ _ _ _ _ _ us hl => match us, hl with | [_], _ => rfl) (fun z => absurd rfl z)⟩
omit H in
theorem sc_is_between : FnScope ["thing", "low", "high"] ["thing", "low", "high"] (L2.defScope (top 13)) := ⟨rfl, rfl, rfl, by decide +kernel, rfl, by decide +kernel, by decide +kernel⟩
theorem d_is_between : DefAt G w K mg base (clsOf K cl) "is_between" m_is_between 3 [] 4 := by
  obtain ⟨fd, F⟩ := H.def_ 5 (d := dd_is_between) rfl
  exact ⟨_, H.glo 5 rfl, def_fn (fresh := false) (n := 40) (dfl := []) (j := 2) F (mo H) sc_is_between (fl := [("is_number", 0, 1, [])]) (nl := []) (cl := []) (al := []) (own := []) (ms := [m_is_number]) (mp := []) (b := b_is_between) ⟨(d_is_number H).mono (by decide), trivial⟩ trivial trivial trivial rfl (by decide) (F.bindsN fun _ _ _ _ _ _ us hl => match us, hl with | [_, _, _], _ => rfl) (fun z => absurd rfl z)⟩
omit H in
theorem sc_is_tuple_of : FnScope ["thing", "many", "low", "high", "item"] ["thing", "many", "low", "high"] (L2.defScope (top 16)) := ⟨rfl, rfl, rfl, by decide +kernel, rfl, by decide +kernel, by decide +kernel⟩
theorem d_is_tuple_of : DefAt G w K mg base (clsOf K cl) "is_tuple_of" m_is_tuple_of 4 [] 6 := by
  obtain ⟨fd, F⟩ := H.def_ 6 (d := dd_is_tuple_of) rfl
  exact ⟨_, H.glo 6 rfl, def_fn (fresh := false) (n := 40) (dfl := []) (j := 4) F (mo H) sc_is_tuple_of (fl := [("is_between", 0, 3, [])]) (nl := []) (cl := []) (al := []) (own := []) (ms := [m_is_between]) (mp := []) (b := b_is_tuple_of) ⟨(d_is_between H).mono (by decide), trivial⟩ trivial trivial trivial rfl (by decide) (F.bindsN fun _ _ _ _ _ _ us hl => match us, hl with | [_, _, _, _], _ => rfl) (fun z => absurd rfl z)⟩
omit H in
theorem sc_is_state : FnScope ["many", "thing"] ["many", "thing"] (L2.defScope (top 24)) := ⟨rfl, rfl, rfl, by decide +kernel, rfl, by decide +kernel, by decide +kernel⟩
theorem d_is_state : DefAt G w K mg base (clsOf K cl) "is_state" m_is_state 2 [] 8 := by
  obtain ⟨fd, F⟩ := H.def_ 7 (d := dd_is_state) rfl
  exact ⟨_, H.glo 7 rfl, def_fn (fresh := false) (n := 40) (dfl := []) (j := 6) F (mo H) sc_is_state (fl := [("is_tuple_of", 0, 4, [])]) (nl := []) (cl := []) (al := []) (own := []) (ms := [m_is_tuple_of]) (mp := []) (b := b_is_state) ⟨(d_is_tuple_of H).mono (by decide), trivial⟩ trivial trivial trivial rfl (by decide) (F.bindsN fun _ _ _ _ _ _ us hl => match us, hl with | [_, _], _ => rfl) (fun z => absurd rfl z)⟩
omit H in
theorem sc_need_state : FnScope ["many", "state"] ["many", "state"] (L2.defScope (top 25)) := ⟨rfl, rfl, rfl, by decide +kernel, rfl, by decide +kernel, by decide +kernel⟩
theorem d_need_state : DefAt G w K mg base (clsOf K cl) "need_state" m_need_state 2 [] 10 := by
  obtain ⟨fd, F⟩ := H.def_ 8 (d := dd_need_state) rfl
  exact ⟨_, H.glo 8 rfl, def_fn (fresh := false) (n := 40) (dfl := []) (j := 8) F (mo H) sc_need_state (fl := [("is_state", 0, 2, [])]) (nl := []) (cl := []) (al := []) (own := []) (ms := [m_is_state]) (mp := []) (b := b_need_state) ⟨(d_is_state H).mono (by decide), trivial⟩ trivial trivial trivial rfl (by decide) (F.bindsN fun _ _ _ _ _ _ us hl => match us, hl with | [_, _], _ => rfl) (fun z => absurd rfl z)⟩
omit H in
theorem sc_need_many : FnScope ["switches"] ["switches"] (L2.defScope (top 35)) := ⟨rfl, rfl, rfl, by decide +kernel, rfl, by decide +kernel, by decide +kernel⟩
theorem d_need_many : DefAt G w K mg base (clsOf K cl) "need_many" m_need_many 1 [] 6 := by
  obtain ⟨fd, F⟩ := H.def_ 9 (d := dd_need_many) rfl
  exact ⟨_, H.glo 9 rfl, def_fn (fresh := false) (n := 40) (dfl := []) (j := 4) F (mo H) sc_need_many (fl := [("is_between", 0, 3, [])]) (nl := [("MOST_SWITCHES", 4)]) (cl := []) (al := []) (own := []) (ms := [m_is_between]) (mp := []) (b := b_need_many) ⟨(d_is_between H).mono (by decide), trivial⟩ ⟨H.num 82 rfl, trivial⟩ trivial trivial rfl (by decide) (F.bindsN fun _ _ _ _ _ _ us hl => match us, hl with | [_], _ => rfl) (fun z => absurd rfl z)⟩
omit H in
theorem sc_asked_mark : FnScope ["asked"] ["asked"] (L2.defScope (top 38)) := ⟨rfl, rfl, rfl, by decide +kernel, rfl, by decide +kernel, by decide +kernel⟩
theorem d_asked_mark : DefAt G w K mg base (clsOf K cl) "asked_mark" m_asked_mark 1 [] 2 := by
  obtain ⟨fd, F⟩ := H.def_ 10 (d := dd_asked_mark) rfl
  exact ⟨_, H.glo 10 rfl, def_fn (fresh := false) (n := 40) (dfl := []) (j := 0) F (mo H) sc_asked_mark (fl := []) (nl := []) (cl := []) (al := []) (own := []) (ms := []) (mp := []) (b := b_asked_mark) trivial trivial trivial trivial rfl (by decide) (F.bindsN fun _ _ _ _ _ _ us hl => match us, hl with | [_], _ => rfl) (fun z => absurd rfl z)⟩
omit H in
theorem sc_is_rising : FnScope ["several", "one", "other"] ["several"] (L2.defScope (top 15)) := ⟨rfl, rfl, rfl, by decide +kernel, rfl, by decide +kernel, by decide +kernel⟩
theorem d_is_rising : DefAt G w K mg base (clsOf K cl) "is_rising" m_is_rising 1 [] 2 := by
  obtain ⟨fd, F⟩ := H.def_ 11 (d := dd_is_rising) rfl
  exact ⟨_, H.glo 11 rfl, def_fn (fresh := false) (n := 40) (dfl := []) (j := 0) F (mo H) sc_is_rising (fl := []) (nl := []) (cl := []) (al := []) (own := []) (ms := []) (mp := []) (b := b_is_rising) trivial trivial trivial trivial rfl (by decide) (F.bindsN fun _ _ _ _ _ _ us hl => match us, hl with | [_], _ => rfl) (fun z => absurd rfl z)⟩
omit H in
theorem sc_is_asked : FnScope ["many", "thing", "switch"] ["many", "thing"] (L2.defScope (top 27)) := ⟨rfl, rfl, rfl, by decide +kernel, rfl, by decide +kernel, by decide +kernel⟩
theorem d_is_asked : DefAt G w K mg base (clsOf K cl) "is_asked" m_is_asked 2 [] 6 := by
  obtain ⟨fd, F⟩ := H.def_ 12 (d := dd_is_asked) rfl
  exact ⟨_, H.glo 12 rfl, def_fn (fresh := false) (n := 40) (dfl := []) (j := 4) F (mo H) sc_is_asked (fl := [("is_between", 0, 3, []), ("is_rising", 1, 1, [])]) (nl := []) (cl := []) (al := []) (own := []) (ms := [m_is_between, m_is_rising]) (mp := []) (b := b_is_asked) ⟨(d_is_between H).mono (by decide), (d_is_rising H).mono (by decide), trivial⟩ trivial trivial trivial rfl (by decide) (F.bindsN fun _ _ _ _ _ _ us hl => match us, hl with | [_, _], _ => rfl) (fun z => absurd rfl z)⟩
omit H in
theorem sc_is_term : FnScope ["many", "thing"] ["many", "thing"] (L2.defScope (top 39)) := ⟨rfl, rfl, rfl, by decide +kernel, rfl, by decide +kernel, by decide +kernel⟩
theorem d_is_term : DefAt G w K mg base (clsOf K cl) "is_term" m_is_term 2 [] 8 := by
  obtain ⟨fd, F⟩ := H.def_ 13 (d := dd_is_term) rfl
  exact ⟨_, H.glo 13 rfl, def_fn (fresh := false) (n := 40) (dfl := []) (j := 6) F (mo H) sc_is_term (fl := [("is_asked", 0, 2, []), ("is_number", 1, 1, [])]) (nl := [("MOST_NUMBER", 1000000000000000000000000000000000000000000000000000000000000)]) (cl := []) (al := []) (own := []) (ms := [m_is_asked, m_is_number]) (mp := []) (b := b_is_term) ⟨(d_is_asked H).mono (by decide), (d_is_number H).mono (by decide), trivial⟩ ⟨H.num 81 rfl, trivial⟩ trivial trivial rfl (by decide) (F.bindsN fun _ _ _ _ _ _ us hl => match us, hl with | [_, _], _ => rfl) (fun z => absurd rfl z)⟩
omit H in
theorem sc_is_energy_by : FnScope ["many", "thing", "marks", "term", "one", "other"] ["many", "thing"] (L2.defScope (top 40)) := ⟨rfl, rfl, rfl, by decide +kernel, rfl, by decide +kernel, by decide +kernel⟩
theorem d_is_energy_by : DefAt G w K mg base (clsOf K cl) "is_energy_by" m_is_energy_by 2 [] 10 := by
  obtain ⟨fd, F⟩ := H.def_ 14 (d := dd_is_energy_by) rfl
  exact ⟨_, H.glo 14 rfl, def_fn (fresh := false) (n := 40) (dfl := []) (j := 8) F (mo H) sc_is_energy_by (fl := [("asked_mark", 0, 1, []), ("is_term", 1, 2, [])]) (nl := []) (cl := []) (al := []) (own := []) (ms := [m_asked_mark, m_is_term]) (mp := []) (b := b_is_energy_by) ⟨(d_asked_mark H).mono (by decide), (d_is_term H).mono (by decide), trivial⟩ trivial trivial trivial rfl (by decide) (F.bindsN fun _ _ _ _ _ _ us hl => match us, hl with | [_, _], _ => rfl) (fun z => absurd rfl z)⟩
omit H in
theorem sc_need_energy : FnScope ["many", "energy", "part"] ["many", "energy", "part"] (L2.defScope (top 41)) := ⟨rfl, rfl, rfl, by decide +kernel, rfl, by decide +kernel, by decide +kernel⟩
theorem d_need_energy : DefAt G w K mg base (clsOf K cl) "need_energy" m_need_energy 3 [.none] 12 := by
  obtain ⟨fd, F⟩ := H.def_ 15 (d := dd_need_energy) rfl
  exact ⟨_, H.glo 15 rfl, def_fn (fresh := false) (n := 40) (dfl := [.none]) (j := 10) F (mo H) sc_need_energy (fl := [("is_energy_by", 0, 2, [])]) (nl := []) (cl := []) (al := []) (own := []) (ms := [m_is_energy_by]) (mp := []) (b := b_need_energy) ⟨(d_is_energy_by H).mono (by decide), trivial⟩ trivial trivial trivial rfl (by decide) (binds_full (ps := ["many", "energy", "part"]) F 3 rfl rfl (fun _ _ _ _ _ _ _ us its h1 h2 => match us, h1, its, h2 with | [_, _, _], _, [_], _ => ⟨_, rfl, rfl⟩)) (fun _ => binds_dfl (ps := ["many", "energy", "part"]) F 2 rfl (fun _ _ _ _ _ _ _ us its h1 h2 => match us, h1, its, h2 with | [_, _], _, [_], _ => ⟨_, rfl, rfl⟩))⟩
omit H in
theorem sc_need_switches_energy : FnScope ["switches", "energy"] ["switches", "energy"] (L2.defScope (top 42)) := ⟨rfl, rfl, rfl, by decide +kernel, rfl, by decide +kernel, by decide +kernel⟩
theorem d_need_switches_energy : DefAt G w K mg base (clsOf K cl) "need_switches_energy" m_need_switches_energy 2 [] 14 := by
  obtain ⟨fd, F⟩ := H.def_ 16 (d := dd_need_switches_energy) rfl
  exact ⟨_, H.glo 16 rfl, def_fn (fresh := false) (n := 40) (dfl := []) (j := 12) F (mo H) sc_need_switches_energy (fl := [("need_energy", 0, 3, [.none]), ("need_many", 1, 1, [])]) (nl := []) (cl := []) (al := []) (own := []) (ms := [m_need_energy, m_need_many]) (mp := []) (b := b_need_switches_energy) ⟨(d_need_energy H).mono (by decide), (d_need_many H).mono (by decide), trivial⟩ trivial trivial trivial rfl (by decide) (F.bindsN fun _ _ _ _ _ _ us hl => match us, hl with | [_, _], _ => rfl) (fun z => absurd rfl z)⟩
omit H in
theorem sc_need_energy_state : FnScope ["switches", "energy", "state"] ["switches", "energy", "state"] (L2.defScope (top 57)) := ⟨rfl, rfl, rfl, by decide +kernel, rfl, by decide +kernel, by decide +kernel⟩
theorem d_need_energy_state : DefAt G w K mg base (clsOf K cl) "need_energy_state" m_need_energy_state 3 [] 16 := by
  obtain ⟨fd, F⟩ := H.def_ 17 (d := dd_need_energy_state) rfl
  exact ⟨_, H.glo 17 rfl, def_fn (fresh := false) (n := 40) (dfl := []) (j := 14) F (mo H) sc_need_energy_state (fl := [("need_state", 0, 2, []), ("need_switches_energy", 1, 2, [])]) (nl := []) (cl := []) (al := []) (own := []) (ms := [m_need_state, m_need_switches_energy]) (mp := []) (b := b_need_energy_state) ⟨(d_need_state H).mono (by decide), (d_need_switches_energy H).mono (by decide), trivial⟩ trivial trivial trivial rfl (by decide) (F.bindsN fun _ _ _ _ _ _ us hl => match us, hl with | [_, _, _], _ => rfl) (fun z => absurd rfl z)⟩
omit H in
theorem sc_turned_at : FnScope ["state", "switch"] ["state", "switch"] (L2.defScope (top 28)) := ⟨rfl, rfl, rfl, by decide +kernel, rfl, by decide +kernel, by decide +kernel⟩
theorem d_turned_at : DefAt G w K mg base (clsOf K cl) "turned_at" m_turned_at 2 [] 2 := by
  obtain ⟨fd, F⟩ := H.def_ 18 (d := dd_turned_at) rfl
  exact ⟨_, H.glo 18 rfl, def_fn (fresh := false) (n := 40) (dfl := []) (j := 0) F (mo H) sc_turned_at (fl := []) (nl := []) (cl := []) (al := []) (own := []) (ms := []) (mp := []) (b := b_turned_at) trivial trivial trivial trivial rfl (by decide) (F.bindsN fun _ _ _ _ _ _ us hl => match us, hl with | [_, _], _ => rfl) (fun z => absurd rfl z)⟩
omit H in
theorem sc_states_beside : FnScope ["state", "switch"] ["state"] (L2.defScope (top 51)) := ⟨rfl, rfl, rfl, by decide +kernel, rfl, by decide +kernel, by decide +kernel⟩
theorem d_states_beside : DefAt G w K mg base (clsOf K cl) "states_beside" m_states_beside 1 [] 4 := by
  obtain ⟨fd, F⟩ := H.def_ 19 (d := dd_states_beside) rfl
  exact ⟨_, H.glo 19 rfl, def_fn (fresh := false) (n := 40) (dfl := []) (j := 2) F (mo H) sc_states_beside (fl := [("turned_at", 0, 2, [])]) (nl := []) (cl := []) (al := []) (own := []) (ms := [m_turned_at]) (mp := []) (b := b_states_beside) ⟨(d_turned_at H).mono (by decide), trivial⟩ trivial trivial trivial rfl (by decide) (F.bindsN fun _ _ _ _ _ _ us hl => match us, hl with | [_], _ => rfl) (fun z => absurd rfl z)⟩
omit H in
theorem sc_ways_within : FnScope ["table", "one", "number", "ways", "line", "spot", "later"] ["table", "one", "number"] (L2.defScope (top 52)) := ⟨rfl, rfl, rfl, by decide +kernel, rfl, by decide +kernel, by decide +kernel⟩
theorem d_ways_within : DefAt G w K mg base (clsOf K cl) "ways_within" m_ways_within 3 [] 6 := by
  obtain ⟨fd, F⟩ := H.def_ 20 (d := dd_ways_within) rfl
  exact ⟨_, H.glo 20 rfl, def_fn (fresh := false) (n := 40) (dfl := []) (j := 4) F (mo H) sc_ways_within (fl := [("states_beside", 0, 1, [])]) (nl := []) (cl := []) (al := []) (own := ["line", "ways"]) (ms := [m_states_beside]) (mp := []) (b := b_ways_within) ⟨(d_states_beside H).mono (by decide), trivial⟩ trivial trivial trivial rfl (by decide) (F.bindsN fun _ _ _ _ _ _ us hl => match us, hl with | [_, _, _], _ => rfl) (fun z => absurd rfl z)⟩
omit H in
theorem sc_height_by : FnScope ["table", "one", "other", "number"] ["table", "one", "other"] (L2.defScope (top 53)) := ⟨rfl, rfl, rfl, by decide +kernel, rfl, by decide +kernel, by decide +kernel⟩
theorem d_height_by : DefAt G w K mg base (clsOf K cl) "height_by" m_height_by 3 [] 8 := by
  obtain ⟨fd, F⟩ := H.def_ 21 (d := dd_height_by) rfl
  exact ⟨_, H.glo 21 rfl, def_fn (fresh := false) (n := 40) (dfl := []) (j := 6) F (mo H) sc_height_by (fl := [("ways_within", 0, 3, [])]) (nl := []) (cl := []) (al := []) (own := []) (ms := [m_ways_within]) (mp := []) (b := b_height_by) ⟨(d_ways_within H).mono (by decide), trivial⟩ trivial trivial trivial rfl (by decide) (F.bindsN fun _ _ _ _ _ _ us hl => match us, hl with | [_, _, _], _ => rfl) (fun z => absurd rfl z)⟩
omit H in
theorem sc_depth_by : FnScope ["table", "state", "lower", "other"] ["table", "state"] (L2.defScope (top 59)) := ⟨rfl, rfl, rfl, by decide +kernel, rfl, by decide +kernel, by decide +kernel⟩
theorem d_depth_by : DefAt G w K mg base (clsOf K cl) "depth_by" m_depth_by 2 [] 10 := by
  obtain ⟨fd, F⟩ := H.def_ 22 (d := dd_depth_by) rfl
  exact ⟨_, H.glo 22 rfl, def_fn (fresh := false) (n := 40) (dfl := []) (j := 8) F (mo H) sc_depth_by (fl := [("height_by", 0, 3, [])]) (nl := []) (cl := []) (al := []) (own := []) (ms := [m_height_by]) (mp := []) (b := b_depth_by) ⟨(d_height_by H).mono (by decide), trivial⟩ trivial trivial trivial rfl (by decide) (F.bindsN fun _ _ _ _ _ _ us hl => match us, hl with | [_, _], _ => rfl) (fun z => absurd rfl z)⟩
omit H in
theorem sc_depth : FnScope ["switches", "energy", "state"] ["switches", "energy", "state"] (L2.defScope (top 60)) := ⟨rfl, rfl, rfl, by decide +kernel, rfl, by decide +kernel, by decide +kernel⟩
theorem d_depth : DefAt G w K mg base (clsOf K cl) "depth" m_depth 3 [] 18 := by
  obtain ⟨fd, F⟩ := H.def_ 23 (d := dd_depth) rfl
  exact ⟨_, H.glo 23 rfl, def_fn (fresh := false) (n := 40) (dfl := []) (j := 16) F (mo H) sc_depth (fl := [("depth_by", 0, 2, []), ("need_energy_state", 1, 3, []), ("values_by", 2, 2, [])]) (nl := []) (cl := []) (al := []) (own := []) (ms := [m_depth_by, m_need_energy_state, m_values_by]) (mp := []) (b := b_depth) ⟨(d_depth_by H).mono (by decide), (d_need_energy_state H).mono (by decide), (d_values_by H).mono (by decide), trivial⟩ trivial trivial trivial rfl (by decide) (F.bindsN fun _ _ _ _ _ _ us hl => match us, hl with | [_, _, _], _ => rfl) (fun z => absurd rfl z)⟩
omit H in
theorem sc_level_of : FnScope ["table", "state", "found", "spot", "alike", "later"] ["table", "state"] (L2.defScope (top 61)) := ⟨rfl, rfl, rfl, by decide +kernel, rfl, by decide +kernel, by decide +kernel⟩
theorem d_level_of : DefAt G w K mg base (clsOf K cl) "level_of" m_level_of 2 [] 6 := by
  obtain ⟨fd, F⟩ := H.def_ 24 (d := dd_level_of) rfl
  exact ⟨_, H.glo 24 rfl, def_fn (fresh := false) (n := 40) (dfl := []) (j := 4) F (mo H) sc_level_of (fl := [("states_beside", 0, 1, [])]) (nl := []) (cl := []) (al := []) (own := ["found"]) (ms := [m_states_beside]) (mp := []) (b := b_level_of) ⟨(d_states_beside H).mono (by decide), trivial⟩ trivial trivial trivial rfl (by decide) (F.bindsN fun _ _ _ _ _ _ us hl => match us, hl with | [_, _], _ => rfl) (fun z => absurd rfl z)⟩
omit H in
theorem sc_bottoms_by : FnScope ["table", "found", "state", "lot", "lower", "other", "later"] ["table"] (L2.defScope (top 62)) := ⟨rfl, rfl, rfl, by decide +kernel, rfl, by decide +kernel, by decide +kernel⟩
theorem d_bottoms_by : DefAt G w K mg base (clsOf K cl) "bottoms_by" m_bottoms_by 1 [] 8 := by
  obtain ⟨fd, F⟩ := H.def_ 25 (d := dd_bottoms_by) rfl
  exact ⟨_, H.glo 25 rfl, def_fn (fresh := false) (n := 40) (dfl := []) (j := 6) F (mo H) sc_bottoms_by (fl := [("level_of", 0, 2, []), ("states_beside", 1, 1, [])]) (nl := []) (cl := []) (al := []) (own := ["found"]) (ms := [m_level_of, m_states_beside]) (mp := []) (b := b_bottoms_by) ⟨(d_level_of H).mono (by decide), (d_states_beside H).mono (by decide), trivial⟩ trivial trivial trivial rfl (by decide) (F.bindsN fun _ _ _ _ _ _ us hl => match us, hl with | [_], _ => rfl) (fun z => absurd rfl z)⟩
omit H in
theorem sc_bottoms : FnScope ["switches", "energy"] ["switches", "energy"] (L2.defScope (top 63)) := ⟨rfl, rfl, rfl, by decide +kernel, rfl, by decide +kernel, by decide +kernel⟩
theorem d_bottoms : DefAt G w K mg base (clsOf K cl) "bottoms" m_bottoms 2 [] 16 := by
  obtain ⟨fd, F⟩ := H.def_ 26 (d := dd_bottoms) rfl
  exact ⟨_, H.glo 26 rfl, def_fn (fresh := false) (n := 40) (dfl := []) (j := 14) F (mo H) sc_bottoms (fl := [("bottoms_by", 0, 1, []), ("need_switches_energy", 1, 2, []), ("values_by", 2, 2, [])]) (nl := []) (cl := []) (al := []) (own := []) (ms := [m_bottoms_by, m_need_switches_energy, m_values_by]) (mp := []) (b := b_bottoms) ⟨(d_bottoms_by H).mono (by decide), (d_need_switches_energy H).mono (by decide), (d_values_by H).mono (by decide), trivial⟩ trivial trivial trivial rfl (by decide) (F.bindsN fun _ _ _ _ _ _ us hl => match us, hl with | [_, _], _ => rfl) (fun z => absurd rfl z)⟩
omit H in
theorem sc_is_list : FnScope ["thing"] ["thing"] (L2.defScope (top 14)) := ⟨rfl, rfl, rfl, by decide +kernel, rfl, by decide +kernel, by decide +kernel⟩
theorem d_is_list : DefAt G w K mg base (clsOf K cl) "is_list" m_is_list 1 [] 2 := by
  obtain ⟨fd, F⟩ := H.def_ 27 (d := dd_is_list) rfl
  exact ⟨_, H.glo 27 rfl, def_fn (fresh := false) (n := 40) (dfl := []) (j := 0) F (mo H) sc_is_list (fl := []) (nl := []) (cl := []) (al := []) (own := []) (ms := []) (mp := []) (b := b_is_list) trivial trivial trivial trivial rfl (by decide) (F.bindsN fun _ _ _ _ _ _ us hl => match us, hl with | [_], _ => rfl) (fun z => absurd rfl z)⟩
omit H in
theorem sc_states_many : FnScope ["many"] ["many"] (L2.defScope (top 20)) := ⟨rfl, rfl, rfl, by decide +kernel, rfl, by decide +kernel, by decide +kernel⟩
theorem d_states_many : DefAt G w K mg base (clsOf K cl) "states_many" m_states_many 1 [] 4 := by
  obtain ⟨fd, F⟩ := H.def_ 28 (d := dd_states_many) rfl
  exact ⟨_, H.glo 28 rfl, def_fn (fresh := false) (n := 40) (dfl := []) (j := 2) F (mo H) sc_states_many (fl := [("all_states", 0, 1, [])]) (nl := []) (cl := []) (al := []) (own := []) (ms := [m_all_states]) (mp := []) (b := b_states_many) ⟨(d_all_states H).mono (by decide), trivial⟩ trivial trivial trivial rfl (by decide) (F.bindsN fun _ _ _ _ _ _ us hl => match us, hl with | [_], _ => rfl) (fun z => absurd rfl z)⟩
omit H in
theorem sc_need_rules : FnScope ["rules", "size", "index", "rule"] ["rules"] (L2.defScope (top 21)) := ⟨rfl, rfl, rfl, by decide +kernel, rfl, by decide +kernel, by decide +kernel⟩
theorem d_need_rules : DefAt G w K mg base (clsOf K cl) "need_rules" m_need_rules 1 [] 8 := by
  obtain ⟨fd, F⟩ := H.def_ 29 (d := dd_need_rules) rfl
  exact ⟨_, H.glo 29 rfl, def_fn (fresh := false) (n := 40) (dfl := []) (j := 6) F (mo H) sc_need_rules (fl := [("is_list", 0, 1, []), ("is_tuple_of", 1, 4, []), ("states_many", 2, 1, [])]) (nl := [("MOST_SWITCHES", 4)]) (cl := []) (al := []) (own := []) (ms := [m_is_list, m_is_tuple_of, m_states_many]) (mp := []) (b := b_need_rules) ⟨(d_is_list H).mono (by decide), (d_is_tuple_of H).mono (by decide), (d_states_many H).mono (by decide), trivial⟩ ⟨H.num 82 rfl, trivial⟩ trivial trivial rfl (by decide) (F.bindsN fun _ _ _ _ _ _ us hl => match us, hl with | [_], _ => rfl) (fun z => absurd rfl z)⟩
omit H in
theorem sc_Net_init : FnScope ["self", "rules", "nexts", "index", "state", "rule"] ["self", "rules"] (L2.defScope (inCls (top 22) "__init__")) := ⟨rfl, rfl, rfl, by decide +kernel, rfl, by decide +kernel, by decide +kernel⟩
theorem c_Net : ClsAt G w K mg base (clsOf K cl) "Net" 1 m_Net_init 10 := by
  obtain ⟨fd, F⟩ := H.def_ 30 (d := dd_Net_init) rfl
  exact ⟨by decide, by decide, rfl, rfl, _, _, H.glo 77 rfl, rfl, _, _, mkr_ok (H.fact 78 rfl), def_fn (fresh := false) (n := 40) (dfl := []) (j := 8) F (mo H) sc_Net_init (fl := [("all_states", 0, 1, []), ("need_rules", 1, 1, [])]) (nl := []) (cl := []) (al := [("own_nexts", 1, .inl 1), ("own_rules", 1, .inl 0)]) (own := ["nexts", "self"]) (ms := [m_all_states, m_need_rules]) (mp := [0]) (b := b_Net_init) ⟨(d_all_states H).mono (by decide), (d_need_rules H).mono (by decide), trivial⟩ trivial trivial ⟨fld_own_nexts H, fld_own_rules H, trivial⟩ rfl (by decide) (F.bindsN fun _ _ _ _ _ _ us hl => match us, hl with | [_, _], _ => rfl) (fun z => absurd rfl z)⟩
omit H in
theorem sc_net_by_steps : FnScope ["many", "steps", "known", "rules", "switch", "rule", "state", "step"] ["many", "steps"] (L2.defScope (top 34)) := ⟨rfl, rfl, rfl, by decide +kernel, rfl, by decide +kernel, by decide +kernel⟩
theorem d_net_by_steps : DefAt G w K mg base (clsOf K cl) "net_by_steps" m_net_by_steps 2 [] 12 := by
  obtain ⟨fd, F⟩ := H.def_ 31 (d := dd_net_by_steps) rfl
  exact ⟨_, H.glo 30 rfl, def_fn (fresh := false) (n := 40) (dfl := []) (j := 10) F (mo H) sc_net_by_steps (fl := [("all_states", 1, 1, [])]) (nl := []) (cl := [("Net", 1, 0)]) (al := []) (own := ["rule", "rules"]) (ms := [m_Net_init, m_all_states]) (mp := []) (b := b_net_by_steps) ⟨(d_all_states H).mono (by decide), trivial⟩ trivial ⟨ClsAt.x (by decide) ((c_Net H).mono (by decide)), trivial⟩ trivial rfl (by decide) (F.bindsN fun _ _ _ _ _ _ us hl => match us, hl with | [_, _], _ => rfl) (fun z => absurd rfl z)⟩
omit H in
theorem sc_behind_step : FnScope ["step"] ["step"] (L2.defScope (top 33)) := ⟨rfl, rfl, rfl, by decide +kernel, rfl, by decide +kernel, by decide +kernel⟩
theorem d_behind_step : DefAt G w K mg base (clsOf K cl) "behind_step" m_behind_step 1 [] 4 := by
  obtain ⟨fd, F⟩ := H.def_ 32 (d := dd_behind_step) rfl
  exact ⟨_, H.glo 31 rfl, def_fn (fresh := false) (n := 40) (dfl := []) (j := 2) F (mo H) sc_behind_step (fl := [("turned_at", 0, 2, [])]) (nl := []) (cl := []) (al := []) (own := []) (ms := [m_turned_at]) (mp := []) (b := b_behind_step) ⟨(d_turned_at H).mono (by decide), trivial⟩ trivial trivial trivial rfl (by decide) (F.bindsN fun _ _ _ _ _ _ us hl => match us, hl with | [_], _ => rfl) (fun z => absurd rfl z)⟩
omit H in
theorem sc_turn_in : FnScope ["asked", "step"] ["asked", "step"] (L2.defScope (top 47)) := ⟨rfl, rfl, rfl, by decide +kernel, rfl, by decide +kernel, by decide +kernel⟩
theorem d_turn_in : DefAt G w K mg base (clsOf K cl) "turn_in" m_turn_in 2 [] 6 := by
  obtain ⟨fd, F⟩ := H.def_ 33 (d := dd_turn_in) rfl
  exact ⟨_, H.glo 32 rfl, def_fn (fresh := false) (n := 40) (dfl := []) (j := 4) F (mo H) sc_turn_in (fl := [("behind_step", 0, 1, []), ("product_at", 1, 2, [])]) (nl := []) (cl := []) (al := []) (own := []) (ms := [m_behind_step, m_product_at]) (mp := []) (b := b_turn_in) ⟨(d_behind_step H).mono (by decide), (d_product_at H).mono (by decide), trivial⟩ trivial trivial trivial rfl (by decide) (F.bindsN fun _ _ _ _ _ _ us hl => match us, hl with | [_, _], _ => rfl) (fun z => absurd rfl z)⟩
omit H in
theorem sc_change_by : FnScope ["energy", "step", "asked", "number"] ["energy", "step"] (L2.defScope (top 48)) := ⟨rfl, rfl, rfl, by decide +kernel, rfl, by decide +kernel, by decide +kernel⟩
theorem d_change_by : DefAt G w K mg base (clsOf K cl) "change_by" m_change_by 2 [] 8 := by
  obtain ⟨fd, F⟩ := H.def_ 34 (d := dd_change_by) rfl
  exact ⟨_, H.glo 33 rfl, def_fn (fresh := false) (n := 40) (dfl := []) (j := 6) F (mo H) sc_change_by (fl := [("turn_in", 0, 2, [])]) (nl := []) (cl := []) (al := []) (own := []) (ms := [m_turn_in]) (mp := []) (b := b_change_by) ⟨(d_turn_in H).mono (by decide), trivial⟩ trivial trivial trivial rfl (by decide) (F.bindsN fun _ _ _ _ _ _ us hl => match us, hl with | [_, _], _ => rfl) (fun z => absurd rfl z)⟩
omit H in
theorem sc_turns_by : FnScope ["many", "state", "switch"] ["many"] (L2.defScope (top 67)) := ⟨rfl, rfl, rfl, by decide +kernel, rfl, by decide +kernel, by decide +kernel⟩
theorem d_turns_by : DefAt G w K mg base (clsOf K cl) "turns_by" m_turns_by 1 [] 4 := by
  obtain ⟨fd, F⟩ := H.def_ 35 (d := dd_turns_by) rfl
  exact ⟨_, H.glo 34 rfl, def_fn (fresh := false) (n := 40) (dfl := []) (j := 2) F (mo H) sc_turns_by (fl := [("all_states", 0, 1, [])]) (nl := []) (cl := []) (al := []) (own := []) (ms := [m_all_states]) (mp := []) (b := b_turns_by) ⟨(d_all_states H).mono (by decide), trivial⟩ trivial trivial trivial rfl (by decide) (F.bindsN fun _ _ _ _ _ _ us hl => match us, hl with | [_], _ => rfl) (fun z => absurd rfl z)⟩
omit H in
theorem sc_net_by_energy : FnScope ["many", "energy", "turn"] ["many", "energy"] (L2.defScope (top 68)) := ⟨rfl, rfl, rfl, by decide +kernel, rfl, by decide +kernel, by decide +kernel⟩
theorem d_net_by_energy : DefAt G w K mg base (clsOf K cl) "net_by_energy" m_net_by_energy 2 [] 14 := by
  obtain ⟨fd, F⟩ := H.def_ 36 (d := dd_net_by_energy) rfl
  exact ⟨_, H.glo 35 rfl, def_fn (fresh := false) (n := 40) (dfl := []) (j := 12) F (mo H) sc_net_by_energy (fl := [("change_by", 0, 2, []), ("net_by_steps", 1, 2, []), ("turns_by", 2, 1, [])]) (nl := []) (cl := []) (al := []) (own := []) (ms := [m_change_by, m_net_by_steps, m_turns_by]) (mp := []) (b := b_net_by_energy) ⟨(d_change_by H).mono (by decide), (d_net_by_steps H).mono (by decide), (d_turns_by H).mono (by decide), trivial⟩ trivial trivial trivial rfl (by decide) (F.bindsN fun _ _ _ _ _ _ us hl => match us, hl with | [_, _], _ => rfl) (fun z => absurd rfl z)⟩
omit H in
theorem sc_net_of_energy : FnScope ["switches", "energy"] ["switches", "energy"] (L2.defScope (top 69)) := ⟨rfl, rfl, rfl, by decide +kernel, rfl, by decide +kernel, by decide +kernel⟩
theorem d_net_of_energy : DefAt G w K mg base (clsOf K cl) "net_of_energy" m_net_of_energy 2 [] 16 := by
  obtain ⟨fd, F⟩ := H.def_ 37 (d := dd_net_of_energy) rfl
  exact ⟨_, H.glo 36 rfl, def_fn (fresh := false) (n := 40) (dfl := []) (j := 14) F (mo H) sc_net_of_energy (fl := [("need_switches_energy", 0, 2, []), ("net_by_energy", 1, 2, [])]) (nl := []) (cl := []) (al := []) (own := []) (ms := [m_need_switches_energy, m_net_by_energy]) (mp := []) (b := b_net_of_energy) ⟨(d_need_switches_energy H).mono (by decide), (d_net_by_energy H).mono (by decide), trivial⟩ trivial trivial trivial rfl (by decide) (F.bindsN fun _ _ _ _ _ _ us hl => match us, hl with | [_, _], _ => rfl) (fun z => absurd rfl z)⟩
omit H in
theorem sc_law_begun : FnScope ["script", "great", "cell"] ["script"] (L2.defScope (top 82)) := ⟨rfl, rfl, rfl, by decide +kernel, rfl, by decide +kernel, by decide +kernel⟩
theorem d_law_begun : DefAt G w K mg base (clsOf K cl) "_law_begun" m_law_begun 1 [] 2 := by
  obtain ⟨fd, F⟩ := H.def_ 38 (d := dd_law_begun) rfl
  exact ⟨_, H.glo 37 rfl, def_fn (fresh := true) (n := 40) (dfl := []) (j := 0) F (mo H) sc_law_begun (fl := []) (nl := []) (cl := []) (al := []) (own := ["great"]) (ms := []) (mp := []) (b := b_law_begun) trivial trivial trivial trivial rfl (by decide) (F.bindsN fun _ _ _ _ _ _ us hl => match us, hl with | [_], _ => rfl) (fun z => absurd rfl z)⟩
omit H in
theorem sc_law_blended : FnScope ["state", "prime", "turn", "found", "blend", "cell"] ["state"] (L2.defScope (top 83)) := ⟨rfl, rfl, rfl, by decide +kernel, rfl, by decide +kernel, by decide +kernel⟩
theorem d_law_blended : DefAt G w K mg base (clsOf K cl) "_law_blended" m_law_blended 1 [] 2 := by
  obtain ⟨fd, F⟩ := H.def_ 39 (d := dd_law_blended) rfl
  exact ⟨_, H.glo 38 rfl, def_fn (fresh := false) (n := 40) (dfl := []) (j := 0) F (mo H) sc_law_blended (fl := []) (nl := []) (cl := []) (al := []) (own := ["state"]) (ms := []) (mp := [0]) (b := b_law_blended) trivial trivial trivial trivial rfl (by decide) (F.bindsN fun _ _ _ _ _ _ us hl => match us, hl with | [_], _ => rfl) (fun z => absurd rfl z)⟩
omit H in
theorem sc_law_draw : FnScope ["state", "size", "found"] ["state", "size"] (L2.defScope (top 84)) := ⟨rfl, rfl, rfl, by decide +kernel, rfl, by decide +kernel, by decide +kernel⟩
theorem d_law_draw : DefAt G w K mg base (clsOf K cl) "_law_draw" m_law_draw 2 [] 4 := by
  obtain ⟨fd, F⟩ := H.def_ 40 (d := dd_law_draw) rfl
  exact ⟨_, H.glo 39 rfl, def_fn (fresh := false) (n := 40) (dfl := []) (j := 2) F (mo H) sc_law_draw (fl := [("_law_blended", 0, 1, [])]) (nl := []) (cl := []) (al := []) (own := ["state"]) (ms := [m_law_blended]) (mp := [0]) (b := b_law_draw) ⟨(d_law_blended H).mono (by decide), trivial⟩ trivial trivial trivial rfl (by decide) (F.bindsN fun _ _ _ _ _ _ us hl => match us, hl with | [_, _], _ => rfl) (fun z => absurd rfl z)⟩
omit H in
theorem sc_law_mixed : FnScope ["state", "several", "left", "found"] ["state", "several"] (L2.defScope (top 85)) := ⟨rfl, rfl, rfl, by decide +kernel, rfl, by decide +kernel, by decide +kernel⟩
theorem d_law_mixed : DefAt G w K mg base (clsOf K cl) "_law_mixed" m_law_mixed 2 [] 6 := by
  obtain ⟨fd, F⟩ := H.def_ 41 (d := dd_law_mixed) rfl
  exact ⟨_, H.glo 40 rfl, def_fn (fresh := false) (n := 40) (dfl := []) (j := 4) F (mo H) sc_law_mixed (fl := [("_law_draw", 0, 2, [])]) (nl := []) (cl := []) (al := []) (own := ["found", "left", "state"]) (ms := [m_law_draw]) (mp := [0]) (b := b_law_mixed) ⟨(d_law_draw H).mono (by decide), trivial⟩ trivial trivial trivial rfl (by decide) (F.bindsN fun _ _ _ _ _ _ us hl => match us, hl with | [_, _], _ => rfl) (fun z => absurd rfl z)⟩
omit H in
theorem sc_law_states : FnScope ["many", "found", "switch", "later", "state"] ["many"] (L2.defScope (top 87)) := ⟨rfl, rfl, rfl, by decide +kernel, rfl, by decide +kernel, by decide +kernel⟩
theorem d_law_states : DefAt G w K mg base (clsOf K cl) "_law_states" m_law_states 1 [] 2 := by
  obtain ⟨fd, F⟩ := H.def_ 42 (d := dd_law_states) rfl
  exact ⟨_, H.glo 41 rfl, def_fn (fresh := false) (n := 40) (dfl := []) (j := 0) F (mo H) sc_law_states (fl := []) (nl := []) (cl := []) (al := []) (own := []) (ms := []) (mp := []) (b := b_law_states) trivial trivial trivial trivial rfl (by decide) (F.bindsN fun _ _ _ _ _ _ us hl => match us, hl with | [_], _ => rfl) (fun z => absurd rfl z)⟩
omit H in
theorem sc_law_asked : FnScope ["many", "number", "found", "switch", "size", "asked"] ["many", "number"] (L2.defScope (top 90)) := ⟨rfl, rfl, rfl, by decide +kernel, rfl, by decide +kernel, by decide +kernel⟩
theorem d_law_asked : DefAt G w K mg base (clsOf K cl) "_law_asked" m_law_asked 2 [] 2 := by
  obtain ⟨fd, F⟩ := H.def_ 43 (d := dd_law_asked) rfl
  exact ⟨_, H.glo 42 rfl, def_fn (fresh := false) (n := 40) (dfl := []) (j := 0) F (mo H) sc_law_asked (fl := []) (nl := []) (cl := []) (al := []) (own := []) (ms := []) (mp := []) (b := b_law_asked) trivial trivial trivial trivial rfl (by decide) (F.bindsN fun _ _ _ _ _ _ us hl => match us, hl with | [_, _], _ => rfl) (fun z => absurd rfl z)⟩
omit H in
theorem sc_law_energy : FnScope ["state", "many", "size", "asked", "way", "found", "number"] ["state", "many", "size"] (L2.defScope (top 95)) := ⟨rfl, rfl, rfl, by decide +kernel, rfl, by decide +kernel, by decide +kernel⟩
theorem d_law_energy : DefAt G w K mg base (clsOf K cl) "_law_energy" m_law_energy 3 [] 6 := by
  obtain ⟨fd, F⟩ := H.def_ 44 (d := dd_law_energy) rfl
  exact ⟨_, H.glo 43 rfl, def_fn (fresh := false) (n := 40) (dfl := []) (j := 4) F (mo H) sc_law_energy (fl := [("_law_asked", 0, 2, []), ("_law_draw", 1, 2, [])]) (nl := []) (cl := []) (al := []) (own := ["state"]) (ms := [m_law_asked, m_law_draw]) (mp := [0]) (b := b_law_energy) ⟨(d_law_asked H).mono (by decide), (d_law_draw H).mono (by decide), trivial⟩ trivial trivial trivial rfl (by decide) (F.bindsN fun _ _ _ _ _ _ us hl => match us, hl with | [_, _, _], _ => rfl) (fun z => absurd rfl z)⟩
omit H in
theorem sc_Net_switches : FnScope ["self"] ["self"] (L2.defScope (inCls (top 22) "switches")) := ⟨rfl, rfl, rfl, by decide +kernel, rfl, by decide +kernel, by decide +kernel⟩
theorem p_switches : PrpAt G w K mg base (clsOf K cl) "switches" 1 m_Net_switches 2 := by
  obtain ⟨q, fd, F⟩ := H.pr_ 0 (d := dd_Net_switches) rfl
  exact ⟨by decide, by decide, _, _, rfl, (mo H).kok.cl 1 _ _ rfl, _, _, q, def_fn (fresh := false) (n := 40) (dfl := []) (j := 0) F (mo H) sc_Net_switches (fl := []) (nl := []) (cl := []) (al := [("own_rules", 1, .inl 0)]) (own := []) (ms := []) (mp := []) (b := b_Net_switches) trivial trivial trivial ⟨fld_own_rules H, trivial⟩ rfl (by decide) (F.bindsN fun _ _ _ _ _ _ us hl => match us, hl with | [_], _ => rfl) (fun z => absurd rfl z)⟩
omit H in
theorem sc_need_net : FnScope ["net", "part"] ["net", "part"] (L2.defScope (top 23)) := ⟨rfl, rfl, rfl, by decide +kernel, rfl, by decide +kernel, by decide +kernel⟩
theorem d_need_net : DefAt G w K mg base (clsOf K cl) "need_net" m_need_net 2 [.none] 2 := by
  obtain ⟨fd, F⟩ := H.def_ 45 (d := dd_need_net) rfl
  exact ⟨_, H.glo 44 rfl, def_fn (fresh := false) (n := 40) (dfl := [.none]) (j := 0) F (mo H) sc_need_net (fl := []) (nl := []) (cl := [("Net", 1, 999)]) (al := []) (own := []) (ms := []) (mp := []) (b := b_need_net) trivial trivial ⟨IsAt.x (by decide) (i_Net H), trivial⟩ trivial rfl (by decide) (binds_full (ps := ["net", "part"]) F 2 rfl rfl (fun _ _ _ _ _ _ _ us its h1 h2 => match us, h1, its, h2 with | [_, _], _, [_], _ => ⟨_, rfl, rfl⟩)) (fun _ => binds_dfl (ps := ["net", "part"]) F 1 rfl (fun _ _ _ _ _ _ _ us its h1 h2 => match us, h1, its, h2 with | [_], _, [_], _ => ⟨_, rfl, rfl⟩))⟩
omit H in
theorem sc_need_net_state : FnScope ["net", "state"] ["net", "state"] (L2.defScope (top 26)) := ⟨rfl, rfl, rfl, by decide +kernel, rfl, by decide +kernel, by decide +kernel⟩
theorem d_need_net_state : DefAt G w K mg base (clsOf K cl) "need_net_state" m_need_net_state 2 [] 12 := by
  obtain ⟨fd, F⟩ := H.def_ 46 (d := dd_need_net_state) rfl
  exact ⟨_, H.glo 45 rfl, def_fn (fresh := false) (n := 40) (dfl := []) (j := 10) F (mo H) sc_need_net_state (fl := [("need_net", 1, 2, [.none]), ("need_state", 2, 2, [])]) (nl := []) (cl := []) (al := [("switches", 1, .inr 0)]) (own := []) (ms := [m_Net_switches, m_need_net, m_need_state]) (mp := []) (b := b_need_net_state) ⟨(d_need_net H).mono (by decide), (d_need_state H).mono (by decide), trivial⟩ trivial trivial ⟨(p_switches H).mono (by decide), trivial⟩ rfl (by decide) (F.bindsN fun _ _ _ _ _ _ us hl => match us, hl with | [_, _], _ => rfl) (fun z => absurd rfl z)⟩
omit H in
theorem sc_next_by : FnScope ["net", "state"] ["net", "state"] (L2.defScope (top 29)) := ⟨rfl, rfl, rfl, by decide +kernel, rfl, by decide +kernel, by decide +kernel⟩
theorem d_next_by : DefAt G w K mg base (clsOf K cl) "next_by" m_next_by 2 [] 2 := by
  obtain ⟨fd, F⟩ := H.def_ 47 (d := dd_next_by) rfl
  exact ⟨_, H.glo 46 rfl, def_fn (fresh := false) (n := 40) (dfl := []) (j := 0) F (mo H) sc_next_by (fl := []) (nl := []) (cl := []) (al := [("own_nexts", 1, .inl 1)]) (own := []) (ms := []) (mp := []) (b := b_next_by) trivial trivial trivial ⟨fld_own_nexts H, trivial⟩ rfl (by decide) (F.bindsN fun _ _ _ _ _ _ us hl => match us, hl with | [_, _], _ => rfl) (fun z => absurd rfl z)⟩
omit H in
theorem sc_wants_by : FnScope ["net", "state", "later", "switch", "answer"] ["net", "state"] (L2.defScope (top 30)) := ⟨rfl, rfl, rfl, by decide +kernel, rfl, by decide +kernel, by decide +kernel⟩
theorem d_wants_by : DefAt G w K mg base (clsOf K cl) "wants_by" m_wants_by 2 [] 4 := by
  obtain ⟨fd, F⟩ := H.def_ 48 (d := dd_wants_by) rfl
  exact ⟨_, H.glo 47 rfl, def_fn (fresh := false) (n := 40) (dfl := []) (j := 2) F (mo H) sc_wants_by (fl := [("next_by", 0, 2, [])]) (nl := []) (cl := []) (al := []) (own := []) (ms := [m_next_by]) (mp := []) (b := b_wants_by) ⟨(d_next_by H).mono (by decide), trivial⟩ trivial trivial trivial rfl (by decide) (F.bindsN fun _ _ _ _ _ _ us hl => match us, hl with | [_, _], _ => rfl) (fun z => absurd rfl z)⟩
omit H in
theorem sc_wants : FnScope ["net", "state"] ["net", "state"] (L2.defScope (top 31)) := ⟨rfl, rfl, rfl, by decide +kernel, rfl, by decide +kernel, by decide +kernel⟩
theorem d_wants : DefAt G w K mg base (clsOf K cl) "wants" m_wants 2 [] 14 := by
  obtain ⟨fd, F⟩ := H.def_ 49 (d := dd_wants) rfl
  exact ⟨_, H.glo 48 rfl, def_fn (fresh := false) (n := 40) (dfl := []) (j := 12) F (mo H) sc_wants (fl := [("need_net_state", 0, 2, []), ("wants_by", 1, 2, [])]) (nl := []) (cl := []) (al := []) (own := []) (ms := [m_need_net_state, m_wants_by]) (mp := []) (b := b_wants) ⟨(d_need_net_state H).mono (by decide), (d_wants_by H).mono (by decide), trivial⟩ trivial trivial trivial rfl (by decide) (F.bindsN fun _ _ _ _ _ _ us hl => match us, hl with | [_, _], _ => rfl) (fun z => absurd rfl z)⟩
omit H in
theorem sc_need_states : FnScope ["switches", "energy", "one", "other"] ["switches", "energy", "one", "other"] (L2.defScope (top 54)) := ⟨rfl, rfl, rfl, by decide +kernel, rfl, by decide +kernel, by decide +kernel⟩
theorem d_need_states : DefAt G w K mg base (clsOf K cl) "need_states" m_need_states 4 [] 16 := by
  obtain ⟨fd, F⟩ := H.def_ 50 (d := dd_need_states) rfl
  exact ⟨_, H.glo 49 rfl, def_fn (fresh := false) (n := 40) (dfl := []) (j := 14) F (mo H) sc_need_states (fl := [("need_state", 0, 2, []), ("need_switches_energy", 1, 2, [])]) (nl := []) (cl := []) (al := []) (own := []) (ms := [m_need_state, m_need_switches_energy]) (mp := []) (b := b_need_states) ⟨(d_need_state H).mono (by decide), (d_need_switches_energy H).mono (by decide), trivial⟩ trivial trivial trivial rfl (by decide) (F.bindsN fun _ _ _ _ _ _ us hl => match us, hl with | [_, _, _, _], _ => rfl) (fun z => absurd rfl z)⟩
omit H in
theorem sc_pass_height : FnScope ["switches", "energy", "one", "other"] ["switches", "energy", "one", "other"] (L2.defScope (top 55)) := ⟨rfl, rfl, rfl, by decide +kernel, rfl, by decide +kernel, by decide +kernel⟩
theorem d_pass_height : DefAt G w K mg base (clsOf K cl) "pass_height" m_pass_height 4 [] 18 := by
  obtain ⟨fd, F⟩ := H.def_ 51 (d := dd_pass_height) rfl
  exact ⟨_, H.glo 50 rfl, def_fn (fresh := false) (n := 40) (dfl := []) (j := 16) F (mo H) sc_pass_height (fl := [("height_by", 0, 3, []), ("need_states", 1, 4, []), ("values_by", 2, 2, [])]) (nl := []) (cl := []) (al := []) (own := []) (ms := [m_height_by, m_need_states, m_values_by]) (mp := []) (b := b_pass_height) ⟨(d_height_by H).mono (by decide), (d_need_states H).mono (by decide), (d_values_by H).mono (by decide), trivial⟩ trivial trivial trivial rfl (by decide) (F.bindsN fun _ _ _ _ _ _ us hl => match us, hl with | [_, _, _, _], _ => rfl) (fun z => absurd rfl z)⟩
omit H in
theorem sc_tie_turns : FnScope ["switches", "energy", "turn"] ["switches", "energy"] (L2.defScope (top 70)) := ⟨rfl, rfl, rfl, by decide +kernel, rfl, by decide +kernel, by decide +kernel⟩
theorem d_tie_turns : DefAt G w K mg base (clsOf K cl) "tie_turns" m_tie_turns 2 [] 16 := by
  obtain ⟨fd, F⟩ := H.def_ 52 (d := dd_tie_turns) rfl
  exact ⟨_, H.glo 51 rfl, def_fn (fresh := false) (n := 40) (dfl := []) (j := 14) F (mo H) sc_tie_turns (fl := [("change_by", 0, 2, []), ("need_switches_energy", 1, 2, []), ("turns_by", 2, 1, [])]) (nl := []) (cl := []) (al := []) (own := []) (ms := [m_change_by, m_need_switches_energy, m_turns_by]) (mp := []) (b := b_tie_turns) ⟨(d_change_by H).mono (by decide), (d_need_switches_energy H).mono (by decide), (d_turns_by H).mono (by decide), trivial⟩ trivial trivial trivial rfl (by decide) (F.bindsN fun _ _ _ _ _ _ us hl => match us, hl with | [_, _], _ => rfl) (fun z => absurd rfl z)⟩
omit H in
theorem sc_law_is_whole : FnScope ["thing"] ["thing"] (L2.defScope (top 86)) := ⟨rfl, rfl, rfl, by decide +kernel, rfl, by decide +kernel, by decide +kernel⟩
theorem d_law_is_whole : DefAt G w K mg base (clsOf K cl) "_law_is_whole" m_law_is_whole 1 [] 2 := by
  obtain ⟨fd, F⟩ := H.def_ 53 (d := dd_law_is_whole) rfl
  exact ⟨_, H.glo 52 rfl, def_fn (fresh := false) (n := 40) (dfl := []) (j := 0) F (mo H) sc_law_is_whole (fl := []) (nl := []) (cl := []) (al := []) (own := []) (ms := []) (mp := []) (b := b_law_is_whole) trivial trivial trivial trivial rfl (by decide) (F.bindsN fun _ _ _ _ _ _ us hl => match us, hl with | [_], _ => rfl) (fun z => absurd rfl z)⟩
omit H in
theorem sc_law_value : FnScope ["energy", "state", "asked", "number", "switch"] ["energy", "state"] (L2.defScope (top 91)) := ⟨rfl, rfl, rfl, by decide +kernel, rfl, by decide +kernel, by decide +kernel⟩
theorem d_law_value : DefAt G w K mg base (clsOf K cl) "_law_value" m_law_value 2 [] 2 := by
  obtain ⟨fd, F⟩ := H.def_ 54 (d := dd_law_value) rfl
  exact ⟨_, H.glo 53 rfl, def_fn (fresh := false) (n := 40) (dfl := []) (j := 0) F (mo H) sc_law_value (fl := []) (nl := []) (cl := []) (al := []) (own := []) (ms := []) (mp := []) (b := b_law_value) trivial trivial trivial trivial rfl (by decide) (F.bindsN fun _ _ _ _ _ _ us hl => match us, hl with | [_, _], _ => rfl) (fun z => absurd rfl z)⟩
omit H in
theorem sc_law_depth_right : FnScope ["many", "energy", "net", "told", "deep", "lower", "ties", "here", "least", "other", "turn"] ["many", "energy", "net", "told"] (L2.defScope (top 97)) := ⟨rfl, rfl, rfl, by decide +kernel, rfl, by decide +kernel, by decide +kernel⟩
theorem d_law_depth_right : DefAt G w K mg base (clsOf K cl) "_law_depth_right" m_law_depth_right 4 [] 20 := by
  obtain ⟨fd, F⟩ := H.def_ 55 (d := dd_law_depth_right) rfl
  exact ⟨_, H.glo 54 rfl, def_fn (fresh := false) (n := 40) (dfl := []) (j := 18) F (mo H) sc_law_depth_right (fl := [("_law_is_whole", 0, 1, []), ("_law_states", 1, 1, []), ("_law_value", 2, 2, []), ("depth", 3, 3, []), ("pass_height", 4, 4, []), ("tie_turns", 5, 2, []), ("wants", 6, 2, [])]) (nl := []) (cl := []) (al := []) (own := []) (ms := [m_law_is_whole, m_law_states, m_law_value, m_depth, m_pass_height, m_tie_turns, m_wants]) (mp := []) (b := b_law_depth_right) ⟨(d_law_is_whole H).mono (by decide), (d_law_states H).mono (by decide), (d_law_value H).mono (by decide), (d_depth H).mono (by decide), (d_pass_height H).mono (by decide), (d_tie_turns H).mono (by decide), (d_wants H).mono (by decide), trivial⟩ trivial trivial trivial rfl (by decide) (F.bindsN fun _ _ _ _ _ _ us hl => match us, hl with | [_, _, _, _], _ => rfl) (fun z => absurd rfl z)⟩
omit H in
theorem sc_value_at : FnScope ["switches", "energy", "state"] ["switches", "energy", "state"] (L2.defScope (top 45)) := ⟨rfl, rfl, rfl, by decide +kernel, rfl, by decide +kernel, by decide +kernel⟩
theorem d_value_at : DefAt G w K mg base (clsOf K cl) "value_at" m_value_at 3 [] 16 := by
  obtain ⟨fd, F⟩ := H.def_ 56 (d := dd_value_at) rfl
  exact ⟨_, H.glo 55 rfl, def_fn (fresh := false) (n := 40) (dfl := []) (j := 14) F (mo H) sc_value_at (fl := [("need_state", 0, 2, []), ("need_switches_energy", 1, 2, []), ("value_by", 2, 2, [])]) (nl := []) (cl := []) (al := []) (own := []) (ms := [m_need_state, m_need_switches_energy, m_value_by]) (mp := []) (b := b_value_at) ⟨(d_need_state H).mono (by decide), (d_need_switches_energy H).mono (by decide), (d_value_by H).mono (by decide), trivial⟩ trivial trivial trivial rfl (by decide) (F.bindsN fun _ _ _ _ _ _ us hl => match us, hl with | [_, _, _], _ => rfl) (fun z => absurd rfl z)⟩
omit H in
theorem sc_valley_of : FnScope ["switches", "energy", "state", "table"] ["switches", "energy", "state"] (L2.defScope (top 58)) := ⟨rfl, rfl, rfl, by decide +kernel, rfl, by decide +kernel, by decide +kernel⟩
theorem d_valley_of : DefAt G w K mg base (clsOf K cl) "valley_of" m_valley_of 3 [] 18 := by
  obtain ⟨fd, F⟩ := H.def_ 57 (d := dd_valley_of) rfl
  exact ⟨_, H.glo 56 rfl, def_fn (fresh := false) (n := 40) (dfl := []) (j := 16) F (mo H) sc_valley_of (fl := [("need_energy_state", 0, 3, []), ("values_by", 1, 2, []), ("ways_within", 2, 3, [])]) (nl := []) (cl := []) (al := []) (own := []) (ms := [m_need_energy_state, m_values_by, m_ways_within]) (mp := []) (b := b_valley_of) ⟨(d_need_energy_state H).mono (by decide), (d_values_by H).mono (by decide), (d_ways_within H).mono (by decide), trivial⟩ trivial trivial trivial rfl (by decide) (F.bindsN fun _ _ _ _ _ _ us hl => match us, hl with | [_, _, _], _ => rfl) (fun z => absurd rfl z)⟩
omit H in
theorem sc_next_states : FnScope ["net", "state", "switch"] ["net", "state"] (L2.defScope (top 72)) := ⟨rfl, rfl, rfl, by decide +kernel, rfl, by decide +kernel, by decide +kernel⟩
theorem d_next_states : DefAt G w K mg base (clsOf K cl) "next_states" m_next_states 2 [] 6 := by
  obtain ⟨fd, F⟩ := H.def_ 58 (d := dd_next_states) rfl
  exact ⟨_, H.glo 57 rfl, def_fn (fresh := false) (n := 40) (dfl := []) (j := 4) F (mo H) sc_next_states (fl := [("turned_at", 0, 2, []), ("wants_by", 1, 2, [])]) (nl := []) (cl := []) (al := []) (own := []) (ms := [m_turned_at, m_wants_by]) (mp := []) (b := b_next_states) ⟨(d_turned_at H).mono (by decide), (d_wants_by H).mono (by decide), trivial⟩ trivial trivial trivial rfl (by decide) (F.bindsN fun _ _ _ _ _ _ us hl => match us, hl with | [_, _], _ => rfl) (fun z => absurd rfl z)⟩
omit H in
theorem sc_lines_by : FnScope ["net", "state", "found", "line", "here", "later"] ["net", "state"] (L2.defScope (top 76)) := ⟨rfl, rfl, rfl, by decide +kernel, rfl, by decide +kernel, by decide +kernel⟩
theorem d_lines_by : DefAt G w K mg base (clsOf K cl) "lines_by" m_lines_by 2 [] 8 := by
  obtain ⟨fd, F⟩ := H.def_ 59 (d := dd_lines_by) rfl
  exact ⟨_, H.glo 58 rfl, def_fn (fresh := false) (n := 40) (dfl := []) (j := 6) F (mo H) sc_lines_by (fl := [("next_states", 0, 2, [])]) (nl := []) (cl := []) (al := []) (own := ["found", "line"]) (ms := [m_next_states]) (mp := []) (b := b_lines_by) ⟨(d_next_states H).mono (by decide), trivial⟩ trivial trivial trivial rfl (by decide) (F.bindsN fun _ _ _ _ _ _ us hl => match us, hl with | [_, _], _ => rfl) (fun z => absurd rfl z)⟩
omit H in
theorem sc_led : FnScope ["net", "state"] ["net", "state"] (L2.defScope (top 77)) := ⟨rfl, rfl, rfl, by decide +kernel, rfl, by decide +kernel, by decide +kernel⟩
theorem d_led : DefAt G w K mg base (clsOf K cl) "led" m_led 2 [] 14 := by
  obtain ⟨fd, F⟩ := H.def_ 60 (d := dd_led) rfl
  exact ⟨_, H.glo 59 rfl, def_fn (fresh := false) (n := 40) (dfl := []) (j := 12) F (mo H) sc_led (fl := [("lines_by", 0, 2, []), ("need_net_state", 1, 2, [])]) (nl := []) (cl := []) (al := []) (own := []) (ms := [m_lines_by, m_need_net_state]) (mp := []) (b := b_led) ⟨(d_lines_by H).mono (by decide), (d_need_net_state H).mono (by decide), trivial⟩ trivial trivial trivial rfl (by decide) (F.bindsN fun _ _ _ _ _ _ us hl => match us, hl with | [_, _], _ => rfl) (fun z => absurd rfl z)⟩
omit H in
theorem sc_is_rest_by : FnScope ["net", "state"] ["net", "state"] (L2.defScope (top 75)) := ⟨rfl, rfl, rfl, by decide +kernel, rfl, by decide +kernel, by decide +kernel⟩
theorem d_is_rest_by : DefAt G w K mg base (clsOf K cl) "is_rest_by" m_is_rest_by 2 [] 6 := by
  obtain ⟨fd, F⟩ := H.def_ 61 (d := dd_is_rest_by) rfl
  exact ⟨_, H.glo 60 rfl, def_fn (fresh := false) (n := 40) (dfl := []) (j := 4) F (mo H) sc_is_rest_by (fl := [("wants_by", 0, 2, [])]) (nl := []) (cl := []) (al := []) (own := []) (ms := [m_wants_by]) (mp := []) (b := b_is_rest_by) ⟨(d_wants_by H).mono (by decide), trivial⟩ trivial trivial trivial rfl (by decide) (F.bindsN fun _ _ _ _ _ _ us hl => match us, hl with | [_, _], _ => rfl) (fun z => absurd rfl z)⟩
omit H in
theorem sc_rests_by : FnScope ["net", "state", "later"] ["net", "state"] (L2.defScope (top 78)) := ⟨rfl, rfl, rfl, by decide +kernel, rfl, by decide +kernel, by decide +kernel⟩
theorem d_rests_by : DefAt G w K mg base (clsOf K cl) "rests_by" m_rests_by 2 [] 10 := by
  obtain ⟨fd, F⟩ := H.def_ 62 (d := dd_rests_by) rfl
  exact ⟨_, H.glo 61 rfl, def_fn (fresh := false) (n := 40) (dfl := []) (j := 8) F (mo H) sc_rests_by (fl := [("is_rest_by", 0, 2, []), ("lines_by", 1, 2, [])]) (nl := []) (cl := []) (al := []) (own := []) (ms := [m_is_rest_by, m_lines_by]) (mp := []) (b := b_rests_by) ⟨(d_is_rest_by H).mono (by decide), (d_lines_by H).mono (by decide), trivial⟩ trivial trivial trivial rfl (by decide) (F.bindsN fun _ _ _ _ _ _ us hl => match us, hl with | [_, _], _ => rfl) (fun z => absurd rfl z)⟩
omit H in
theorem sc_rests_led : FnScope ["net", "state"] ["net", "state"] (L2.defScope (top 79)) := ⟨rfl, rfl, rfl, by decide +kernel, rfl, by decide +kernel, by decide +kernel⟩
theorem d_rests_led : DefAt G w K mg base (clsOf K cl) "rests_led" m_rests_led 2 [] 14 := by
  obtain ⟨fd, F⟩ := H.def_ 63 (d := dd_rests_led) rfl
  exact ⟨_, H.glo 62 rfl, def_fn (fresh := false) (n := 40) (dfl := []) (j := 12) F (mo H) sc_rests_led (fl := [("need_net_state", 0, 2, []), ("rests_by", 1, 2, [])]) (nl := []) (cl := []) (al := []) (own := []) (ms := [m_need_net_state, m_rests_by]) (mp := []) (b := b_rests_led) ⟨(d_need_net_state H).mono (by decide), (d_rests_by H).mono (by decide), trivial⟩ trivial trivial trivial rfl (by decide) (F.bindsN fun _ _ _ _ _ _ us hl => match us, hl with | [_, _], _ => rfl) (fun z => absurd rfl z)⟩
omit H in
theorem sc_need_net_energy : FnScope ["net", "energy"] ["net", "energy"] (L2.defScope (top 49)) := ⟨rfl, rfl, rfl, by decide +kernel, rfl, by decide +kernel, by decide +kernel⟩
theorem d_need_net_energy : DefAt G w K mg base (clsOf K cl) "need_net_energy" m_need_net_energy 2 [] 14 := by
  obtain ⟨fd, F⟩ := H.def_ 64 (d := dd_need_net_energy) rfl
  exact ⟨_, H.glo 63 rfl, def_fn (fresh := false) (n := 40) (dfl := []) (j := 12) F (mo H) sc_need_net_energy (fl := [("need_energy", 1, 3, [.none]), ("need_net", 2, 2, [.none])]) (nl := []) (cl := []) (al := [("switches", 1, .inr 0)]) (own := []) (ms := [m_Net_switches, m_need_energy, m_need_net]) (mp := []) (b := b_need_net_energy) ⟨(d_need_energy H).mono (by decide), (d_need_net H).mono (by decide), trivial⟩ trivial trivial ⟨(p_switches H).mono (by decide), trivial⟩ rfl (by decide) (F.bindsN fun _ _ _ _ _ _ us hl => match us, hl with | [_, _], _ => rfl) (fun z => absurd rfl z)⟩
omit H in
theorem sc_steps_by : FnScope ["net", "state", "switch"] ["net"] (L2.defScope (top 32)) := ⟨rfl, rfl, rfl, by decide +kernel, rfl, by decide +kernel, by decide +kernel⟩
theorem d_steps_by : DefAt G w K mg base (clsOf K cl) "steps_by" m_steps_by 1 [] 6 := by
  obtain ⟨fd, F⟩ := H.def_ 65 (d := dd_steps_by) rfl
  exact ⟨_, H.glo 64 rfl, def_fn (fresh := false) (n := 40) (dfl := []) (j := 4) F (mo H) sc_steps_by (fl := [("all_states", 1, 1, []), ("wants_by", 2, 2, [])]) (nl := []) (cl := []) (al := [("switches", 1, .inr 0)]) (own := []) (ms := [m_Net_switches, m_all_states, m_wants_by]) (mp := []) (b := b_steps_by) ⟨(d_all_states H).mono (by decide), (d_wants_by H).mono (by decide), trivial⟩ trivial trivial ⟨(p_switches H).mono (by decide), trivial⟩ rfl (by decide) (F.bindsN fun _ _ _ _ _ _ us hl => match us, hl with | [_], _ => rfl) (fun z => absurd rfl z)⟩
omit H in
theorem sc_lowers_by : FnScope ["net", "energy", "step"] ["net", "energy"] (L2.defScope (top 65)) := ⟨rfl, rfl, rfl, by decide +kernel, rfl, by decide +kernel, by decide +kernel⟩
theorem d_lowers_by : DefAt G w K mg base (clsOf K cl) "lowers_by" m_lowers_by 2 [] 10 := by
  obtain ⟨fd, F⟩ := H.def_ 66 (d := dd_lowers_by) rfl
  exact ⟨_, H.glo 65 rfl, def_fn (fresh := false) (n := 40) (dfl := []) (j := 8) F (mo H) sc_lowers_by (fl := [("change_by", 0, 2, []), ("steps_by", 1, 1, [])]) (nl := []) (cl := []) (al := []) (own := []) (ms := [m_change_by, m_steps_by]) (mp := []) (b := b_lowers_by) ⟨(d_change_by H).mono (by decide), (d_steps_by H).mono (by decide), trivial⟩ trivial trivial trivial rfl (by decide) (F.bindsN fun _ _ _ _ _ _ us hl => match us, hl with | [_, _], _ => rfl) (fun z => absurd rfl z)⟩
omit H in
theorem sc_need_lowering : FnScope ["net", "energy"] ["net", "energy"] (L2.defScope (top 73)) := ⟨rfl, rfl, rfl, by decide +kernel, rfl, by decide +kernel, by decide +kernel⟩
theorem d_need_lowering : DefAt G w K mg base (clsOf K cl) "need_lowering" m_need_lowering 2 [] 16 := by
  obtain ⟨fd, F⟩ := H.def_ 67 (d := dd_need_lowering) rfl
  exact ⟨_, H.glo 66 rfl, def_fn (fresh := false) (n := 40) (dfl := []) (j := 14) F (mo H) sc_need_lowering (fl := [("lowers_by", 0, 2, []), ("need_net_energy", 1, 2, [])]) (nl := []) (cl := []) (al := []) (own := []) (ms := [m_lowers_by, m_need_net_energy]) (mp := []) (b := b_need_lowering) ⟨(d_lowers_by H).mono (by decide), (d_need_net_energy H).mono (by decide), trivial⟩ trivial trivial trivial rfl (by decide) (F.bindsN fun _ _ _ _ _ _ us hl => match us, hl with | [_, _], _ => rfl) (fun z => absurd rfl z)⟩
omit H in
theorem sc_lowest_led : FnScope ["net", "energy", "state", "rest"] ["net", "energy", "state"] (L2.defScope (top 80)) := ⟨rfl, rfl, rfl, by decide +kernel, rfl, by decide +kernel, by decide +kernel⟩
theorem d_lowest_led : DefAt G w K mg base (clsOf K cl) "lowest_led" m_lowest_led 3 [] 18 := by
  obtain ⟨fd, F⟩ := H.def_ 68 (d := dd_lowest_led) rfl
  exact ⟨_, H.glo 67 rfl, def_fn (fresh := false) (n := 40) (dfl := []) (j := 16) F (mo H) sc_lowest_led (fl := [("need_lowering", 1, 2, []), ("need_state", 2, 2, []), ("rests_by", 3, 2, []), ("value_by", 4, 2, [])]) (nl := []) (cl := []) (al := [("switches", 1, .inr 0)]) (own := []) (ms := [m_Net_switches, m_need_lowering, m_need_state, m_rests_by, m_value_by]) (mp := []) (b := b_lowest_led) ⟨(d_need_lowering H).mono (by decide), (d_need_state H).mono (by decide), (d_rests_by H).mono (by decide), (d_value_by H).mono (by decide), trivial⟩ trivial trivial ⟨(p_switches H).mono (by decide), trivial⟩ rfl (by decide) (F.bindsN fun _ _ _ _ _ _ us hl => match us, hl with | [_, _, _], _ => rfl) (fun z => absurd rfl z)⟩
omit H in
theorem sc_law_turns : FnScope ["many", "found", "state", "switch"] ["many"] (L2.defScope (top 89)) := ⟨rfl, rfl, rfl, by decide +kernel, rfl, by decide +kernel, by decide +kernel⟩
theorem d_law_turns : DefAt G w K mg base (clsOf K cl) "_law_turns" m_law_turns 1 [] 4 := by
  obtain ⟨fd, F⟩ := H.def_ 69 (d := dd_law_turns) rfl
  exact ⟨_, H.glo 68 rfl, def_fn (fresh := false) (n := 40) (dfl := []) (j := 2) F (mo H) sc_law_turns (fl := [("_law_states", 0, 1, [])]) (nl := []) (cl := []) (al := []) (own := []) (ms := [m_law_states]) (mp := []) (b := b_law_turns) ⟨(d_law_states H).mono (by decide), trivial⟩ trivial trivial trivial rfl (by decide) (F.bindsN fun _ _ _ _ _ _ us hl => match us, hl with | [_], _ => rfl) (fun z => absurd rfl z)⟩
omit H in
theorem sc_law_turned : FnScope ["state", "switch"] ["state", "switch"] (L2.defScope (top 88)) := ⟨rfl, rfl, rfl, by decide +kernel, rfl, by decide +kernel, by decide +kernel⟩
theorem d_law_turned : DefAt G w K mg base (clsOf K cl) "_law_turned" m_law_turned 2 [] 2 := by
  obtain ⟨fd, F⟩ := H.def_ 70 (d := dd_law_turned) rfl
  exact ⟨_, H.glo 69 rfl, def_fn (fresh := false) (n := 40) (dfl := []) (j := 0) F (mo H) sc_law_turned (fl := []) (nl := []) (cl := []) (al := []) (own := []) (ms := []) (mp := []) (b := b_law_turned) trivial trivial trivial trivial rfl (by decide) (F.bindsN fun _ _ _ _ _ _ us hl => match us, hl with | [_, _], _ => rfl) (fun z => absurd rfl z)⟩
omit H in
theorem sc_law_change : FnScope ["energy", "turn"] ["energy", "turn"] (L2.defScope (top 92)) := ⟨rfl, rfl, rfl, by decide +kernel, rfl, by decide +kernel, by decide +kernel⟩
theorem d_law_change : DefAt G w K mg base (clsOf K cl) "_law_change" m_law_change 2 [] 4 := by
  obtain ⟨fd, F⟩ := H.def_ 71 (d := dd_law_change) rfl
  exact ⟨_, H.glo 70 rfl, def_fn (fresh := false) (n := 40) (dfl := []) (j := 2) F (mo H) sc_law_change (fl := [("_law_turned", 0, 2, []), ("_law_value", 1, 2, [])]) (nl := []) (cl := []) (al := []) (own := []) (ms := [m_law_turned, m_law_value]) (mp := []) (b := b_law_change) ⟨(d_law_turned H).mono (by decide), (d_law_value H).mono (by decide), trivial⟩ trivial trivial trivial rfl (by decide) (F.bindsN fun _ _ _ _ _ _ us hl => match us, hl with | [_, _], _ => rfl) (fun z => absurd rfl z)⟩
omit H in
theorem sc_law_down : FnScope ["many", "energy", "turn"] ["many", "energy"] (L2.defScope (top 93)) := ⟨rfl, rfl, rfl, by decide +kernel, rfl, by decide +kernel, by decide +kernel⟩
theorem d_law_down : DefAt G w K mg base (clsOf K cl) "_law_down" m_law_down 2 [] 6 := by
  obtain ⟨fd, F⟩ := H.def_ 72 (d := dd_law_down) rfl
  exact ⟨_, H.glo 71 rfl, def_fn (fresh := false) (n := 40) (dfl := []) (j := 4) F (mo H) sc_law_down (fl := [("_law_change", 0, 2, []), ("_law_turns", 1, 1, [])]) (nl := []) (cl := []) (al := []) (own := []) (ms := [m_law_change, m_law_turns]) (mp := []) (b := b_law_down) ⟨(d_law_change H).mono (by decide), (d_law_turns H).mono (by decide), trivial⟩ trivial trivial trivial rfl (by decide) (F.bindsN fun _ _ _ _ _ _ us hl => match us, hl with | [_, _], _ => rfl) (fun z => absurd rfl z)⟩
omit H in
theorem sc_law_net : FnScope ["many", "steps", "rules", "switch", "state"] ["many", "steps"] (L2.defScope (top 94)) := ⟨rfl, rfl, rfl, by decide +kernel, rfl, by decide +kernel, by decide +kernel⟩
theorem d_law_net : DefAt G w K mg base (clsOf K cl) "_law_net" m_law_net 2 [] 12 := by
  obtain ⟨fd, F⟩ := H.def_ 73 (d := dd_law_net) rfl
  exact ⟨_, H.glo 72 rfl, def_fn (fresh := false) (n := 40) (dfl := []) (j := 10) F (mo H) sc_law_net (fl := [("_law_states", 1, 1, [])]) (nl := []) (cl := [("Net", 1, 0)]) (al := []) (own := ["rules"]) (ms := [m_Net_init, m_law_states]) (mp := []) (b := b_law_net) ⟨(d_law_states H).mono (by decide), trivial⟩ trivial ⟨ClsAt.x (by decide) ((c_Net H).mono (by decide)), trivial⟩ trivial rfl (by decide) (F.bindsN fun _ _ _ _ _ _ us hl => match us, hl with | [_, _], _ => rfl) (fun z => absurd rfl z)⟩
omit H in
theorem sc_law_some : FnScope ["state", "several", "share", "few", "thing"] ["state", "several"] (L2.defScope (top 96)) := ⟨rfl, rfl, rfl, by decide +kernel, rfl, by decide +kernel, by decide +kernel⟩
theorem d_law_some : DefAt G w K mg base (clsOf K cl) "_law_some" m_law_some 2 [] 6 := by
  obtain ⟨fd, F⟩ := H.def_ 74 (d := dd_law_some) rfl
  exact ⟨_, H.glo 73 rfl, def_fn (fresh := false) (n := 40) (dfl := []) (j := 4) F (mo H) sc_law_some (fl := [("_law_draw", 0, 2, [])]) (nl := []) (cl := []) (al := []) (own := ["state"]) (ms := [m_law_draw]) (mp := [0]) (b := b_law_some) ⟨(d_law_draw H).mono (by decide), trivial⟩ trivial trivial trivial rfl (by decide) (F.bindsN fun _ _ _ _ _ _ us hl => match us, hl with | [_, _], _ => rfl) (fun z => absurd rfl z)⟩
omit H in
theorem sc_law_led_right : FnScope ["state", "many", "energy", "net", "part", "told", "valley", "rest", "other"] ["state", "many", "energy", "net"] (L2.defScope (top 98)) := ⟨rfl, rfl, rfl, by decide +kernel, rfl, by decide +kernel, by decide +kernel⟩
theorem d_law_led_right : DefAt G w K mg base (clsOf K cl) "_law_led_right" m_law_led_right 4 [] 20 := by
  obtain ⟨fd, F⟩ := H.def_ 75 (d := dd_law_led_right) rfl
  exact ⟨_, H.glo 74 rfl, def_fn (fresh := false) (n := 40) (dfl := []) (j := 18) F (mo H) sc_law_led_right (fl := [("_law_down", 0, 2, []), ("_law_net", 1, 2, []), ("_law_some", 2, 2, []), ("_law_states", 3, 1, []), ("_law_value", 4, 2, []), ("led", 5, 2, []), ("lowest_led", 6, 3, []), ("rests_led", 7, 2, []), ("valley_of", 8, 3, []), ("value_at", 9, 3, []), ("wants", 10, 2, [])]) (nl := []) (cl := []) (al := []) (own := ["state"]) (ms := [m_law_down, m_law_net, m_law_some, m_law_states, m_law_value, m_led, m_lowest_led, m_rests_led, m_valley_of, m_value_at, m_wants]) (mp := [0]) (b := b_law_led_right) ⟨(d_law_down H).mono (by decide), (d_law_net H).mono (by decide), (d_law_some H).mono (by decide), (d_law_states H).mono (by decide), (d_law_value H).mono (by decide), (d_led H).mono (by decide), (d_lowest_led H).mono (by decide), (d_rests_led H).mono (by decide), (d_valley_of H).mono (by decide), (d_value_at H).mono (by decide), (d_wants H).mono (by decide), trivial⟩ trivial trivial trivial rfl (by decide) (F.bindsN fun _ _ _ _ _ _ us hl => match us, hl with | [_, _, _, _], _ => rfl) (fun z => absurd rfl z)⟩
omit H in
theorem sc_law_bottoms_right : FnScope ["many", "energy", "net", "several", "rests", "lot", "least", "held", "told"] ["many", "energy", "net"] (L2.defScope (top 99)) := ⟨rfl, rfl, rfl, by decide +kernel, rfl, by decide +kernel, by decide +kernel⟩
theorem d_law_bottoms_right : DefAt G w K mg base (clsOf K cl) "_law_bottoms_right" m_law_bottoms_right 3 [] 18 := by
  obtain ⟨fd, F⟩ := H.def_ 76 (d := dd_law_bottoms_right) rfl
  exact ⟨_, H.glo 75 rfl, def_fn (fresh := false) (n := 40) (dfl := []) (j := 16) F (mo H) sc_law_bottoms_right (fl := [("_law_states", 0, 1, []), ("_law_value", 1, 2, []), ("bottoms", 2, 2, []), ("tie_turns", 3, 2, []), ("wants", 4, 2, [])]) (nl := []) (cl := []) (al := []) (own := []) (ms := [m_law_states, m_law_value, m_bottoms, m_tie_turns, m_wants]) (mp := []) (b := b_law_bottoms_right) ⟨(d_law_states H).mono (by decide), (d_law_value H).mono (by decide), (d_bottoms H).mono (by decide), (d_tie_turns H).mono (by decide), (d_wants H).mono (by decide), trivial⟩ trivial trivial trivial rfl (by decide) (F.bindsN fun _ _ _ _ _ _ us hl => match us, hl with | [_, _, _], _ => rfl) (fun z => absurd rfl z)⟩
omit H in
theorem sc_law : FnScope ["script", "state", "turn", "one", "many", "energy", "net", "told"] ["script"] (L2.defScope (top 100)) := ⟨rfl, rfl, rfl, by decide +kernel, rfl, by decide +kernel, by decide +kernel⟩
theorem d_law : DefAt G w K mg base (clsOf K cl) "law" m_law 1 [] 22 := by
  obtain ⟨fd, F⟩ := H.def_ 77 (d := dd_law) rfl
  exact ⟨_, H.glo 76 rfl, def_fn (fresh := false) (n := 40) (dfl := []) (j := 20) F (mo H) sc_law (fl := [("_law_begun", 0, 1, []), ("_law_bottoms_right", 1, 3, []), ("_law_depth_right", 2, 4, []), ("_law_draw", 3, 2, []), ("_law_energy", 4, 3, []), ("_law_led_right", 5, 4, []), ("_law_mixed", 6, 2, []), ("_law_states", 7, 1, []), ("bottoms", 8, 2, []), ("depth", 9, 3, []), ("net_of_energy", 10, 2, [])]) (nl := []) (cl := []) (al := []) (own := ["state"]) (ms := [m_law_begun, m_law_bottoms_right, m_law_depth_right, m_law_draw, m_law_energy, m_law_led_right, m_law_mixed, m_law_states, m_bottoms, m_depth, m_net_of_energy]) (mp := []) (b := b_law) ⟨(d_law_begun H).mono (by decide), (d_law_bottoms_right H).mono (by decide), (d_law_depth_right H).mono (by decide), (d_law_draw H).mono (by decide), (d_law_energy H).mono (by decide), (d_law_led_right H).mono (by decide), (d_law_mixed H).mono (by decide), (d_law_states H).mono (by decide), (d_bottoms H).mono (by decide), (d_depth H).mono (by decide), (d_net_of_energy H).mono (by decide), trivial⟩ trivial trivial trivial rfl (by decide) (F.bindsN fun _ _ _ _ _ _ us hl => match us, hl with | [_], _ => rfl) (fun z => absurd rfl z)⟩
theorem law_at : ∃ fd, mg "law" = some (.ref (fAd K dd_law.at_)) ∧ (∀ (s : Shared) (u : Value), BindsTo s fd ⟨[u], []⟩ [("script", u)]) ∧ ∀ base : Heap, FnOk G w K mg base VL.CX0 22 (fAd K dd_law.at_) fd ["script"] (spV ⟨G, w, K, clsOf K cl⟩ m_law 1) := by
  obtain ⟨fd, F⟩ := H.def_ 77 (d := dd_law) rfl
  have b := FunD.bindsA (ps := ["script"]) F fun _ _ _ _ _ _ us hl => match us, hl with | [_], _ => rfl
  exact ⟨fd, H.glo 76 rfl, fun s u => b s [u] rfl, fun base => law_fn (fresh := false) (n := 40) (j := 20) F (mo H) sc_law (fl := [("_law_begun", 0, 1, []), ("_law_bottoms_right", 1, 3, []), ("_law_depth_right", 2, 4, []), ("_law_draw", 3, 2, []), ("_law_energy", 4, 3, []), ("_law_led_right", 5, 4, []), ("_law_mixed", 6, 2, []), ("_law_states", 7, 1, []), ("bottoms", 8, 2, []), ("depth", 9, 3, []), ("net_of_energy", 10, 2, [])]) (nl := []) (cl := []) (al := []) (own := ["state"]) (ms := [m_law_begun, m_law_bottoms_right, m_law_depth_right, m_law_draw, m_law_energy, m_law_led_right, m_law_mixed, m_law_states, m_bottoms, m_depth, m_net_of_energy]) (mp := []) (b := b_law) ⟨(d_law_begun H).mono (by decide), (d_law_bottoms_right H).mono (by decide), (d_law_depth_right H).mono (by decide), (d_law_draw H).mono (by decide), (d_law_energy H).mono (by decide), (d_law_led_right H).mono (by decide), (d_law_mixed H).mono (by decide), (d_law_states H).mono (by decide), (d_bottoms H).mono (by decide), (d_depth H).mono (by decide), (d_net_of_energy H).mono (by decide), trivial⟩ trivial trivial trivial rfl⟩
end
end VL

set_option Elab.async false
set_option linter.all false
set_option maxRecDepth 100000
set_option maxHeartbeats 0
namespace VL
open PySem PySem.Spec PyProof.Rows L2 He
abbrev R : PySem.W.OpenRow := PySem.W.OpenLaw.row PySem.Challenge.rw_lowersteps_k74_across_valleys_of_energie
def asl0 : List Addr := [159, 160, 166, 167, 173, 174, 178, 179, 183, 184, 188, 189, 195, 196, 202, 203, 214, 215, 221, 222, 223, 240, 241, 246, 252, 253, 259, 260, 266, 267, 273, 274, 278, 279, 285, 286, 292, 293, 297, 298]
def asl1 : List Addr := [304, 305, 309, 310, 316, 317, 321, 322, 328, 329, 335, 336, 342, 343, 347, 348, 349, 355, 356, 362, 363, 367, 368, 372, 373, 379, 380, 384, 385, 391, 392, 396, 397, 403, 404, 408, 409, 415, 416, 422]
def asl2 : List Addr := [423, 429, 430, 436, 437, 443, 444, 450, 451, 455, 456, 462, 463, 467, 468, 472, 473, 479, 480, 484, 485, 489, 490, 494, 495, 501, 502, 506, 507, 511, 512, 518, 519, 525, 526, 532, 533, 539, 540, 544]
def asl3 : List Addr := [545, 551, 552, 556, 557, 561, 562, 568, 569, 575, 576, 582, 583, 589, 590, 596, 597, 603, 604, 608, 609, 613, 614, 618, 619, 625, 626, 630, 631, 635, 636, 642, 643, 647, 648, 652, 653, 657, 658, 662]
def asl4 : List Addr := [663, 669, 670]
def asl : List Addr := mainGlobals :: (asl0 ++ asl1 ++ asl2 ++ asl3 ++ asl4)
abbrev hk : PySem.W.Hook := hookV asl fa fn pr cl
def ob (s : PySem.W.SharedT) : AlV := obsVG asl fa fn pr cl (HandSHeadRun.getT s)
theorem ob_eq (s : PySem.W.SharedT) : ob s = hk.obs s.abs := obsVG_eq (HandSHeadRun.getT_eq s)
theorem run (w : World) : HandSHeadRun.RunEq R (PySem.W.view R.prog [100]) hk ob 15000 loose w := by
  intro os
  kernel_rfl
end VL

set_option Elab.async false
set_option linter.all false
set_option maxRecDepth 100000
set_option maxHeartbeats 0
open PySem PySem.W PySem.Calls PyProof.Rows
theorem VL.end_of (hl : ∀ ns : List Int, ns.length ≤ 63 → VL.m_law.run [VL.Dscr ns] = .ok (.bool true, [])) : PySem.Challenge.rw_lowersteps_k74_across_valleys_of_energie.Holds := by
  w_on; o_law
  refine HandSHeadRun.head_any (r := OpenLaw.row PySem.Challenge.rw_lowersteps_k74_across_valleys_of_energie) (q := view (OpenLaw.row PySem.Challenge.rw_lowersteps_k74_across_valleys_of_energie).prog [100]) (H := VL.hk) (ob := VL.ob) (M := 15000) (loose := VL.loose) (d := HandSHeadRun.topDef (OpenLaw.row PySem.Challenge.rw_lowersteps_k74_across_valleys_of_energie).prog 100) (kwd := []) VL.ob_eq
    (by kernel_rfl) (fun s => by kernel_rfl) VL.run (by kernel_rfl) (by kernel_rfl) (by kernel_rfl) (by rfl) (by first | assumption | decide +kernel) (by decide +kernel) ⟨rfl, rfl, rfl, rfl, rfl, by decide +kernel⟩ ?hw ?hc
  case hw => w_witness2
  case hc =>
    refine L2.walk_ofE (l := PySem.Challenge.rw_lowersteps_k74_across_valleys_of_energie) (n := 63) (k := 22) (x := "script") (CX := VL.CX0) rfl (by decide) (by kernel_rfl) ⟨rfl, by decide, by decide⟩ ?F (fun _ _ _ _ z => z)
    intro w mg fa h Y G hmg0
    obtain ⟨K, KX, c⟩ := Y
    have hmg : mg ("law" : PySem.Str) = some (.ref fa) := by
      have e : (HandSHeadRun.topDef (OpenLaw.row PySem.Challenge.rw_lowersteps_k74_across_valleys_of_energie).prog 100).name = ("law" : PySem.Str) := by kernel_rfl
      rw [← e]
      exact hmg0
    have HKK := VL.HK.of KX G c
    obtain ⟨fd, h1, h2, h3⟩ := VL.law_at (G := (PySem.Challenge.rw_lowersteps_k74_across_valleys_of_energie).prog) (w := w) HKK
    rw [hmg] at h1
    cases h1
    refine ⟨K, fd, VL.spV ⟨(PySem.Challenge.rw_lowersteps_k74_across_valleys_of_energie).prog, w, K, VL.clsOf K VL.cl⟩ VL.m_law 1, KX, h2, fun H a ns hl2 _ hS => VL.law_sp (p := ⟨(PySem.Challenge.rw_lowersteps_k74_across_valleys_of_energie).prog, w, K, VL.clsOf K VL.cl⟩) (E := fun _ _ _ => False) rfl rfl (hl ns hl2) hS, fun base _ _ => h3 base⟩
open PySem PySem.W PyProof.Rows
set_option maxRecDepth 100000 in
set_option maxHeartbeats 0 in
theorem PySem.Challenge.cw_lowersteps_k74_across_valleys_of_energie_holds : PySem.Challenge.rw_lowersteps_k74_across_valleys_of_energie.Holds := by
  exact VL.end_of VL.law_holds
